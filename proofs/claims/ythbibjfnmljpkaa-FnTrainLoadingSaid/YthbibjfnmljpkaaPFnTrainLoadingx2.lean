-- Written by a program of this session, over the kit's print (wip/xprint.py)
import Derived.Test.YthbibjfnmljpkaaPFnTrainLoadingx0
import Derived.Test.YthbibjfnmljpkaaPFnTrainLoadingx1
namespace Go.Proofs.Ythbibjfnmljpkaa.PFnTrainLoading
open Go.RowKit Go.Proofs.YthbibjfnmljpkaaW.PrintWords Go.Proofs.YthbibjfnmljpkaaW.PrintLast Go.Proofs.YthbibjfnmljpkaaW.PrintMore
attribute [local go_sem] max2_int min2_int max_two min_two max_three min_three max_four min_four   -- for this text's walks alone
set_option linter.unusedVariables false
set_option linter.unusedSimpArgs false

/-! ### spec_l2Find: function 65 -/
def spec_l2Find.l0 : Nat → List (S64) → ByteArray → Int → Option (Int)
 | 0,_,_,_ => none
 | k + 1,x0,x1,x5 => if x5 < (x0.length : Int) then (if 0 ≤ x5 then (if ((rd_T64 x0 x5).f0).toList = x1.toList then (some x5) else (spec_l2Find.l0 k x0 x1 (wrap64 (x5 + 1)))) else (none)) else (some (-1))
def spec_l2Find.f (k : Nat) (l0 : List (S64)) (a1 : ByteArray) : Option (Int):=spec_l2Find.l0 k l0 a1 0
theorem spec_l2Find.mono_l : ∀ k,(∀ y0 y1 y2,LeO (spec_l2Find.l0 k y0 y1 y2) (spec_l2Find.l0 (k + 1) y0 y1 y2))
 | 0 => fun _ _ _ r h => by simp [spec_l2Find.l0] at h
 | k + 1 => by
  have ih0:=spec_l2Find.mono_l k
  ·intro y0 y1 y2
   unfold spec_l2Find.l0
   repeat' first
   | (with_reducible exact ih0 _ _ _)
   | (with_reducible exact LeO.refl _)
   | (with_reducible exact LeO.none _)
   | (with_reducible refine LeO.ite ?_ ?_)
   | (with_reducible refine LeO.bind ?_ (fun _ => ?_))
   | exact ih0 _ _ _
   | exact LeO.none _
   | refine LeO.ite ?_ ?_
   | refine LeO.bind ?_ (fun _ => ?_)
theorem spec_l2Find.mono : ∀ a0 a1 k,LeO (spec_l2Find.f k a0 a1) (spec_l2Find.f (k + 1) a0 a1):=by
 intro a0 a1 k;have ih0:=spec_l2Find.mono_l k
 unfold spec_l2Find.f
 repeat' first
   | (with_reducible exact ih0 _ _ _)
   | (with_reducible exact LeO.refl _)
   | (with_reducible exact LeO.none _)
   | (with_reducible refine LeO.ite ?_ ?_)
   | (with_reducible refine LeO.bind ?_ (fun _ => ?_))
   | exact ih0 _ _ _
   | exact LeO.none _
   | refine LeO.ite ?_ ?_
   | refine LeO.bind ?_ (fun _ => ?_)
set_option maxHeartbeats 8000000 in
set_option maxRecDepth 100000 in
theorem spec_l2Find.calls (k : Nat) (A0 : Option Addr) (c0 : Nat) (l0 : List (S64)) (a1 : ByteArray) (r : Int) (w : World) (hr0 : Kd.C k64 w A0 l0.length l0) (hc0 : l0.length ≤ c0) (h : spec_l2Find.f k l0 a1 = some r) :
  Calls Try.prog 65 #[.slice A0 l0.length c0, .string a1] w fun e w' => e = .returned (.int .i64 r) ∧ Drawn0 w w':=by
 have HR0:=am_ hr0;have HC0:=am_ hc0;clear hr0 hc0;have H : (spec_l2Find.l0 k l0 a1 0) = some r:=h;clear h;have H':=am_ H;clear H
 go_enter Try.func65,Try.ntmps65
 go_wp2
 go_loopg [5] k (fun kq v5 w' => ∃ (x5_1 : Int),v5 = .int .i64 x5_1 ∧ Aside0 (spec_l2Find.l0 kq l0 a1 x5_1 = some r) ∧ Aside0 (kq ≤ k) ∧ Drawn0 w w')
 case atStart => exact ⟨(0),(by rfl),H',⟨Nat.le_refl _⟩,by repeat (exact Drawn0.refl _)⟩
 case round =>
  clear H';(try clear p2);obtain ⟨x5_1,rfl,HA,HK1,⟨m1,rfl⟩⟩ := hrel
  cases gk with
  | zero => exact absurd HA.out (by simp [spec_l2Find.l0])
  | succ k1 =>
   have H:=HA.out;clear HA;simp only [spec_l2Find.l0] at H
   by_cases c3 : x5_1 < (l0.length : Int)
   ·rw [if_pos c3] at H;have c3b0 : decide (x5_1 < (l0.length : Int)) = true:=decide_eq_true c3;clear c3
    by_cases c4 : 0 ≤ x5_1
    ·rw [if_pos c4] at H;have c4b0 : decide (0 ≤ x5_1) = true:=decide_eq_true c4;clear c4
     by_cases c5 : ((rd_T64 l0 x5_1).f0).toList = a1.toList
     ·rw [if_pos c5] at H;have c5b0 : (((rd_T64 l0 x5_1).f0).toList == a1.toList) = true:=beq_iff_eq.mpr c5;have c5b1 : (((rd_T64 l0 x5_1).f0).toList != a1.toList) = false:=bne_eq_false_iff_eq.mpr c5;clear c5;obtain rfl:=Option.some.inj H;have p114 : 0 ≤ (x5_1 : Int):=of_decide_eq_true (by (with_reducible assumption));have q114 : x5_1 < (l0.length : Int):=of_decide_eq_true (by (with_reducible assumption));obtain ⟨ad114,e114,hx114_0,hx114_1,hx114_2,hx114_3,hx114_4⟩ := at_T64 HR0.out x5_1 p114 q114;cases e114;replace p114:=eq_true p114;replace q114:=eq_true q114
      go_wp2
      go_ret
      exact ⟨by rfl,by repeat (first | exact Drawn0.refl _ | apply Drawn0.step)⟩
     ·rw [if_neg c5] at H;have c5b0 : (((rd_T64 l0 x5_1).f0).toList == a1.toList) = false:=beq_eq_false_iff_ne.mpr c5;have c5b1 : (((rd_T64 l0 x5_1).f0).toList != a1.toList) = true:=bne_iff_ne.mpr c5;have H':=am_ H;clear H;have p114 : 0 ≤ (x5_1 : Int):=of_decide_eq_true (by (with_reducible assumption));have q114 : x5_1 < (l0.length : Int):=of_decide_eq_true (by (with_reducible assumption));obtain ⟨ad114,e114,hx114_0,hx114_1,hx114_2,hx114_3,hx114_4⟩ := at_T64 HR0.out x5_1 p114 q114;cases e114;replace p114:=eq_true p114;replace q114:=eq_true q114
      go_wp2
      go_roundg k1
      case measure => have:=HK1.out;omega
      case rel => exact ⟨(wrap64 (x5_1 + 1)),(by rfl),H',⟨by have:=HK1.out;omega⟩,by repeat (first | exact Drawn0.refl _ | apply Drawn0.step)⟩
    ·rw [if_neg c4] at H
     exact absurd H (by simp)
   ·rw [if_neg c3] at H;have c3b0 : decide (x5_1 < (l0.length : Int)) = false:=decide_eq_false c3;clear c3;obtain rfl:=Option.some.inj H
    go_wp2
    go_ret
    exact ⟨by rfl,by repeat (first | exact Drawn0.refl _ | apply Drawn0.step)⟩

/-! ### spec_l2List: function 32 -/
mutual
def spec_l2List.l0 : Nat → List (S64) → Int → Option (Bool)
 | 0,_,_ => none
 | k + 1,x0,x3 => if x3 < (x0.length : Int) then (spec_l2List.j1 k x0 x3 (decide (x3 ≤ 12))) else (spec_l2List.j1 k x0 x3 false)
def spec_l2List.j1 : Nat → List (S64) → Int → Bool → Option (Bool)
 | 0,_,_,_ => none
 | k + 1,x0,x3,x11 => if x11 = true then (if 0 ≤ x3 then (if x3 < (x0.length : Int) then ((spec_l2Good.f k ((rd_T64 x0 x3).f0) ((rd_T64 x0 x3).f1) ((rd_T64 x0 x3).f2) ((rd_T64 x0 x3).f3) ((rd_T64 x0 x3).f4)).bind fun t116 => (if t116 = true then ((spec_l2Find.f k x0 ((rd_T64 x0 x3).f0)).bind fun t118 => (if t118 = x3 then (spec_l2List.l0 k x0 (wrap64 (x3 + 1))) else (some false))) else (some false))) else (none)) else (none)) else (some (decide ((x0.length : Int) ≤ 12)))
end
def spec_l2List.f (k : Nat) (l0 : List (S64)) : Option (Bool):=spec_l2List.l0 k l0 0
theorem spec_l2List.mono_l : ∀ k,(∀ y0 y1,LeO (spec_l2List.l0 k y0 y1) (spec_l2List.l0 (k + 1) y0 y1)) ∧ (∀ y0 y1 y2,LeO (spec_l2List.j1 k y0 y1 y2) (spec_l2List.j1 (k + 1) y0 y1 y2))
 | 0 => ⟨fun _ _ r h => by simp [spec_l2List.l0] at h,fun _ _ _ r h => by simp [spec_l2List.j1] at h⟩
 | k + 1 => by
  obtain ⟨ih0,ih1⟩ := spec_l2List.mono_l k;refine ⟨?_, ?_⟩
  ·intro y0 y1
   unfold spec_l2List.l0
   repeat' first
   | (with_reducible exact ih0 _ _)
   | (with_reducible exact ih1 _ _ _)
   | (with_reducible exact spec_l2Find.mono _ _ _)
   | (with_reducible exact spec_l2Good.mono _ _ _ _ _ _)
   | (with_reducible exact LeO.refl _)
   | (with_reducible exact LeO.none _)
   | (with_reducible refine LeO.ite ?_ ?_)
   | (with_reducible refine LeO.bind ?_ (fun _ => ?_))
   | exact ih0 _ _
   | exact ih1 _ _ _
   | exact spec_l2Find.mono _ _ _
   | exact spec_l2Good.mono _ _ _ _ _ _
   | exact LeO.none _
   | refine LeO.ite ?_ ?_
   | refine LeO.bind ?_ (fun _ => ?_)
  ·intro y0 y1 y2
   unfold spec_l2List.j1
   repeat' first
   | (with_reducible exact ih0 _ _)
   | (with_reducible exact ih1 _ _ _)
   | (with_reducible exact spec_l2Find.mono _ _ _)
   | (with_reducible exact spec_l2Good.mono _ _ _ _ _ _)
   | (with_reducible exact LeO.refl _)
   | (with_reducible exact LeO.none _)
   | (with_reducible refine LeO.ite ?_ ?_)
   | (with_reducible refine LeO.bind ?_ (fun _ => ?_))
   | exact ih0 _ _
   | exact ih1 _ _ _
   | exact spec_l2Find.mono _ _ _
   | exact spec_l2Good.mono _ _ _ _ _ _
   | exact LeO.none _
   | refine LeO.ite ?_ ?_
   | refine LeO.bind ?_ (fun _ => ?_)
theorem spec_l2List.mono : ∀ a0 k,LeO (spec_l2List.f k a0) (spec_l2List.f (k + 1) a0):=by
 intro a0 k;obtain ⟨ih0,ih1⟩ := spec_l2List.mono_l k
 unfold spec_l2List.f
 repeat' first
   | (with_reducible exact ih0 _ _)
   | (with_reducible exact ih1 _ _ _)
   | (with_reducible exact spec_l2Find.mono _ _ _)
   | (with_reducible exact spec_l2Good.mono _ _ _ _ _ _)
   | (with_reducible exact LeO.refl _)
   | (with_reducible exact LeO.none _)
   | (with_reducible refine LeO.ite ?_ ?_)
   | (with_reducible refine LeO.bind ?_ (fun _ => ?_))
   | exact ih0 _ _
   | exact ih1 _ _ _
   | exact spec_l2Find.mono _ _ _
   | exact spec_l2Good.mono _ _ _ _ _ _
   | exact LeO.none _
   | refine LeO.ite ?_ ?_
   | refine LeO.bind ?_ (fun _ => ?_)
set_option maxHeartbeats 8000000 in
set_option maxRecDepth 100000 in
theorem spec_l2List.calls (k : Nat) (A0 : Option Addr) (c0 : Nat) (l0 : List (S64)) (r : Bool) (w : World) (hr0 : Kd.C k64 w A0 l0.length l0) (hc0 : l0.length ≤ c0) (h : spec_l2List.f k l0 = some r) :
  Calls Try.prog 32 #[.slice A0 l0.length c0] w fun e w' => e = .returned (.bool r) ∧ Below w.heap.size w w':=by
 have hu64:=Try.underlying64;have HR0:=am_ hr0;have HC0:=am_ hc0;clear hr0 hc0;have HB:=am_ (Below.refl w.heap.size w);have H : (spec_l2List.l0 k l0 0) = some r:=h;clear h;have H':=am_ H;clear H
 go_enter Try.func32,Try.ntmps32
 go_wp2
 go_loopg [3] k (fun kq v3 w' => ∃ (x3_1 : Int),v3 = .int .i64 x3_1 ∧ Aside0 (spec_l2List.l0 kq l0 x3_1 = some r) ∧ Aside0 (kq ≤ k) ∧ Aside0 (Below w.heap.size w w'))
 case atStart => exact ⟨(0),(by rfl),H',⟨Nat.le_refl _⟩,⟨by exact HB.out⟩⟩
 case round =>
  clear H';obtain ⟨x3_1,rfl,HA,HK1,HB⟩ := hrel
  cases gk with
  | zero => exact absurd HA.out (by simp [spec_l2List.l0])
  | succ k1 =>
   have H:=HA.out;clear HA;simp only [spec_l2List.l0] at H;have HC2:=am_ H;clear H
   go_upto_region 2 with (fail)
   go_cut [11] (fun v11 wc => ∃ (kq : Nat) (x11_1 : Bool),v11 = .bool x11_1 ∧ Aside0 (spec_l2List.j1 kq l0 x3_1 x11_1 = some r) ∧ Aside0 (kq ≤ k1) ∧ Aside0 (Below w.heap.size w wc))
   case first =>
    have H:=HC2.out;clear HC2
    by_cases c3 : x3_1 < (l0.length : Int)
    ·rw [if_pos c3] at H;have c3b0 : decide (x3_1 < (l0.length : Int)) = true:=decide_eq_true c3;clear c3
     (skip)
     have H':=am_ H;clear H
     go_wp2
     go_meet
     case rel => exact ⟨_,(decide (x3_1 ≤ 12)),(by rfl),H',⟨by have:=HK1.out;omega⟩,⟨by exact HB.out⟩⟩
    ·rw [if_neg c3] at H;have c3b0 : decide (x3_1 < (l0.length : Int)) = false:=decide_eq_false c3;clear c3
     (skip)
     have H':=am_ H;clear H
     go_wp2
     go_meet
     case rel => exact ⟨_,(false),(by rfl),H',⟨by have:=HK1.out;omega⟩,⟨by exact HB.out⟩⟩
   case rest =>
    clear HC2;(try clear p2);(try clear c3);(try clear c3b0);obtain ⟨kq,x11_1,rfl,HA,HJ1,HB⟩ := hcut
    cases kq with
    | zero => exact absurd HA.out (by simp [spec_l2List.j1])
    | succ kj1 =>
     have H:=HA.out;clear HA;simp only [spec_l2List.j1] at H
     by_cases c4 : x11_1 = true
     ·subst c4
      have H1 : (if 0 ≤ x3_1 then (if x3_1 < (l0.length : Int) then ((spec_l2Good.f kj1 ((rd_T64 l0 x3_1).f0) ((rd_T64 l0 x3_1).f1) ((rd_T64 l0 x3_1).f2) ((rd_T64 l0 x3_1).f3) ((rd_T64 l0 x3_1).f4)).bind fun t116 => (if t116 = true then ((spec_l2Find.f kj1 l0 ((rd_T64 l0 x3_1).f0)).bind fun t118 => (if t118 = x3_1 then (spec_l2List.l0 kj1 l0 (wrap64 (x3_1 + 1))) else (some false))) else (some false))) else (none)) else (none)) = some r:=by rw [if_pos rfl] at H;exact H
      clear H;have H:=H1;clear H1
      by_cases c5 : 0 ≤ x3_1
      ·rw [if_pos c5] at H;have c5b0 : decide (0 ≤ x3_1) = true:=decide_eq_true c5;clear c5
       by_cases c6 : x3_1 < (l0.length : Int)
       ·rw [if_pos c6] at H;have c6b0 : decide (x3_1 < (l0.length : Int)) = true:=decide_eq_true c6;clear c6;replace H:=Option.bind_eq_some_iff.mp H;obtain ⟨t116,A70,H⟩ := H;replace H : (if t116 = true then ((spec_l2Find.f kj1 l0 ((rd_T64 l0 x3_1).f0)).bind fun t118 => (if t118 = x3_1 then (spec_l2List.l0 kj1 l0 (wrap64 (x3_1 + 1))) else (some false))) else (some false)) = some r:=H;have A7:=am_ A70;clear A70
        by_cases c8 : t116 = true
        ·subst c8
         have H1 : ((spec_l2Find.f kj1 l0 ((rd_T64 l0 x3_1).f0)).bind fun t118 => (if t118 = x3_1 then (spec_l2List.l0 kj1 l0 (wrap64 (x3_1 + 1))) else (some false))) = some r:=by rw [if_pos rfl] at H;exact H
         clear H;have H:=H1;clear H1;replace H:=Option.bind_eq_some_iff.mp H;obtain ⟨t118,A90,H⟩ := H;replace H : (if t118 = x3_1 then (spec_l2List.l0 kj1 l0 (wrap64 (x3_1 + 1))) else (some false)) = some r:=H;have A9:=am_ A90;clear A90
         by_cases c10 : t118 = x3_1
         ·rw [if_pos c10] at H;have c10b0 : (t118 == x3_1) = true:=beq_iff_eq.mpr c10;have c10b1 : (t118 != x3_1) = false:=bne_eq_false_iff_eq.mpr c10;clear c10;have H':=am_ H;clear H;have p115 : 0 ≤ (x3_1 : Int):=of_decide_eq_true (by (with_reducible assumption));have q115 : x3_1 < (l0.length : Int):=of_decide_eq_true (by (with_reducible assumption));obtain ⟨ad115,e115,hx115_0,hx115_1,hx115_2,hx115_3,hx115_4⟩ := at_T64 HR0.out x3_1 p115 q115;cases e115;replace hx115_0:=(HB.out.cell (World.block_lt_of_cell? w _ hx115_0)).trans hx115_0;replace hx115_1:=(HB.out.cell (World.block_lt_of_cell? w _ hx115_1)).trans hx115_1;replace hx115_2:=(HB.out.cell (World.block_lt_of_cell? w _ hx115_2)).trans hx115_2;replace hx115_3:=(HB.out.cell (World.block_lt_of_cell? w _ hx115_3)).trans hx115_3;replace hx115_4:=(HB.out.cell (World.block_lt_of_cell? w _ hx115_4)).trans hx115_4;replace p115:=eq_true p115;replace q115:=eq_true q115
          go_wp2_with (first | ((with_reducible refine gate_callee (f:=64) rfl ?_);refine goesL_ (some 18) rfl rfl Try.func64 (by kernel_rfl) rfl #[.agg #[.string ((rd_T64 l0 x3_1).f0), .int .i64 ((rd_T64 l0 x3_1).f1), .int .i64 ((rd_T64 l0 x3_1).f2), .int .i64 ((rd_T64 l0 x3_1).f3), .int .i64 ((rd_T64 l0 x3_1).f4)]] rfl (by (try simp only [List.map_toArray,List.map_cons,List.map_nil]);rfl) ?_;(with_reducible refine (spec_l2Good.calls kj1 ((rd_T64 l0 x3_1).f0) ((rd_T64 l0 x3_1).f1) ((rd_T64 l0 x3_1).f2) ((rd_T64 l0 x3_1).f3) ((rd_T64 l0 x3_1).f4) true _ A7.out).mono ?_);rintro e w11 ⟨rfl,hb⟩;refine ⟨_,rfl, ?_⟩;have n0_:=am_ (below_step (by exact HB.out) hb);clear HB;have HB:=n0_;clear n0_;(try clear hb);have p117 : 0 ≤ (x3_1 : Int):=of_decide_eq_true (by (with_reducible assumption));have q117 : x3_1 < (l0.length : Int):=of_decide_eq_true (by (with_reducible assumption));obtain ⟨ad117,e117,hx117_0,hx117_1,hx117_2,hx117_3,hx117_4⟩ := at_T64 HR0.out x3_1 p117 q117;obtain rfl : ad115 = ad117:=(by injection e117);replace hx117_0:=(HB.out.cell (World.block_lt_of_cell? w _ hx117_0)).trans hx117_0;replace hx117_1:=(HB.out.cell (World.block_lt_of_cell? w _ hx117_1)).trans hx117_1;replace hx117_2:=(HB.out.cell (World.block_lt_of_cell? w _ hx117_2)).trans hx117_2;replace hx117_3:=(HB.out.cell (World.block_lt_of_cell? w _ hx117_3)).trans hx117_3;replace hx117_4:=(HB.out.cell (World.block_lt_of_cell? w _ hx117_4)).trans hx117_4;replace p117:=eq_true p117;replace q117:=eq_true q117) | (go_at_call 65;(with_reducible refine (spec_l2Find.calls kj1 _ _ l0 ((rd_T64 l0 x3_1).f0) t118 _ ?side1 ?side2 A9.out).mono ?_);(case side1 => repeat (exact (Kd.C_below HR0.out HB.out)));(case side2 => exact HC0.out);rintro e w' ⟨rfl,⟨nd,rfl⟩⟩))
          go_roundg kj1
          case measure => have:=HK1.out;have:=HJ1.out;omega
          case rel => exact ⟨(wrap64 (x3_1 + 1)),(by rfl),H',⟨by have:=HK1.out;have:=HJ1.out;omega⟩,⟨by repeat ((with_reducible first | exact HB.out | apply pw_below_drewN))⟩⟩
         ·rw [if_neg c10] at H;have c10b0 : (t118 == x3_1) = false:=beq_eq_false_iff_ne.mpr c10;have c10b1 : (t118 != x3_1) = true:=bne_iff_ne.mpr c10;obtain rfl:=Option.some.inj H;have p115 : 0 ≤ (x3_1 : Int):=of_decide_eq_true (by (with_reducible assumption));have q115 : x3_1 < (l0.length : Int):=of_decide_eq_true (by (with_reducible assumption));obtain ⟨ad115,e115,hx115_0,hx115_1,hx115_2,hx115_3,hx115_4⟩ := at_T64 HR0.out x3_1 p115 q115;cases e115;replace hx115_0:=(HB.out.cell (World.block_lt_of_cell? w _ hx115_0)).trans hx115_0;replace hx115_1:=(HB.out.cell (World.block_lt_of_cell? w _ hx115_1)).trans hx115_1;replace hx115_2:=(HB.out.cell (World.block_lt_of_cell? w _ hx115_2)).trans hx115_2;replace hx115_3:=(HB.out.cell (World.block_lt_of_cell? w _ hx115_3)).trans hx115_3;replace hx115_4:=(HB.out.cell (World.block_lt_of_cell? w _ hx115_4)).trans hx115_4;replace p115:=eq_true p115;replace q115:=eq_true q115
          go_wp2_with (first | ((with_reducible refine gate_callee (f:=64) rfl ?_);refine goesL_ (some 18) rfl rfl Try.func64 (by kernel_rfl) rfl #[.agg #[.string ((rd_T64 l0 x3_1).f0), .int .i64 ((rd_T64 l0 x3_1).f1), .int .i64 ((rd_T64 l0 x3_1).f2), .int .i64 ((rd_T64 l0 x3_1).f3), .int .i64 ((rd_T64 l0 x3_1).f4)]] rfl (by (try simp only [List.map_toArray,List.map_cons,List.map_nil]);rfl) ?_;(with_reducible refine (spec_l2Good.calls kj1 ((rd_T64 l0 x3_1).f0) ((rd_T64 l0 x3_1).f1) ((rd_T64 l0 x3_1).f2) ((rd_T64 l0 x3_1).f3) ((rd_T64 l0 x3_1).f4) true _ A7.out).mono ?_);rintro e w12 ⟨rfl,hb⟩;refine ⟨_,rfl, ?_⟩;have n0_:=am_ (below_step (by exact HB.out) hb);clear HB;have HB:=n0_;clear n0_;(try clear hb);have p117 : 0 ≤ (x3_1 : Int):=of_decide_eq_true (by (with_reducible assumption));have q117 : x3_1 < (l0.length : Int):=of_decide_eq_true (by (with_reducible assumption));obtain ⟨ad117,e117,hx117_0,hx117_1,hx117_2,hx117_3,hx117_4⟩ := at_T64 HR0.out x3_1 p117 q117;obtain rfl : ad115 = ad117:=(by injection e117);replace hx117_0:=(HB.out.cell (World.block_lt_of_cell? w _ hx117_0)).trans hx117_0;replace hx117_1:=(HB.out.cell (World.block_lt_of_cell? w _ hx117_1)).trans hx117_1;replace hx117_2:=(HB.out.cell (World.block_lt_of_cell? w _ hx117_2)).trans hx117_2;replace hx117_3:=(HB.out.cell (World.block_lt_of_cell? w _ hx117_3)).trans hx117_3;replace hx117_4:=(HB.out.cell (World.block_lt_of_cell? w _ hx117_4)).trans hx117_4;replace p117:=eq_true p117;replace q117:=eq_true q117) | (go_at_call 65;(with_reducible refine (spec_l2Find.calls kj1 _ _ l0 ((rd_T64 l0 x3_1).f0) t118 _ ?side1 ?side2 A9.out).mono ?_);(case side1 => repeat (exact (Kd.C_below HR0.out HB.out)));(case side2 => exact HC0.out);rintro e w' ⟨rfl,⟨nd,rfl⟩⟩))
          go_ret
          exact ⟨by rfl,by repeat ((with_reducible first | exact HB.out | apply pw_below_drewN))⟩
        ·replace c8:=Bool.eq_false_iff.mpr c8;subst c8
         have H1 : (some false) = some r:=by rw [if_neg (show ¬ (false = true) by decide)] at H;exact H
         clear H;have H:=H1;clear H1;obtain rfl:=Option.some.inj H;have p115 : 0 ≤ (x3_1 : Int):=of_decide_eq_true (by (with_reducible assumption));have q115 : x3_1 < (l0.length : Int):=of_decide_eq_true (by (with_reducible assumption));obtain ⟨ad115,e115,hx115_0,hx115_1,hx115_2,hx115_3,hx115_4⟩ := at_T64 HR0.out x3_1 p115 q115;cases e115;replace hx115_0:=(HB.out.cell (World.block_lt_of_cell? w _ hx115_0)).trans hx115_0;replace hx115_1:=(HB.out.cell (World.block_lt_of_cell? w _ hx115_1)).trans hx115_1;replace hx115_2:=(HB.out.cell (World.block_lt_of_cell? w _ hx115_2)).trans hx115_2;replace hx115_3:=(HB.out.cell (World.block_lt_of_cell? w _ hx115_3)).trans hx115_3;replace hx115_4:=(HB.out.cell (World.block_lt_of_cell? w _ hx115_4)).trans hx115_4;replace p115:=eq_true p115;replace q115:=eq_true q115
         go_wp2_with (((with_reducible refine gate_callee (f:=64) rfl ?_);refine goesL_ (some 18) rfl rfl Try.func64 (by kernel_rfl) rfl #[.agg #[.string ((rd_T64 l0 x3_1).f0), .int .i64 ((rd_T64 l0 x3_1).f1), .int .i64 ((rd_T64 l0 x3_1).f2), .int .i64 ((rd_T64 l0 x3_1).f3), .int .i64 ((rd_T64 l0 x3_1).f4)]] rfl (by (try simp only [List.map_toArray,List.map_cons,List.map_nil]);rfl) ?_;(with_reducible refine (spec_l2Good.calls kj1 ((rd_T64 l0 x3_1).f0) ((rd_T64 l0 x3_1).f1) ((rd_T64 l0 x3_1).f2) ((rd_T64 l0 x3_1).f3) ((rd_T64 l0 x3_1).f4) false _ A7.out).mono ?_);rintro e w13 ⟨rfl,hb⟩;refine ⟨_,rfl, ?_⟩;have n0_:=am_ (below_step (by exact HB.out) hb);clear HB;have HB:=n0_;clear n0_;(try clear hb)))
         go_ret
         exact ⟨by rfl,by exact HB.out⟩
       ·rw [if_neg c6] at H
        exact absurd H (by simp)
      ·rw [if_neg c5] at H
       exact absurd H (by simp)
     ·replace c4:=Bool.eq_false_iff.mpr c4;subst c4
      have H1 : (some (decide ((l0.length : Int) ≤ 12))) = some r:=by rw [if_neg (show ¬ (false = true) by decide)] at H;exact H
      clear H;have H:=H1;clear H1;obtain rfl:=Option.some.inj H
      go_wp2
      go_ret
      exact ⟨by rfl,by exact HB.out⟩

/-! ### spec_l1Own: function 66 -/
def spec_l1Own.f (l0 : List Int) : Option (List Int):=(some (([] : List Int) : List Int)).bind fun y119 => (if y119.length + l0.length < 17592186044416 then (some (y119 ++ l0)) else (none))
set_option maxHeartbeats 8000000 in
set_option maxRecDepth 100000 in
theorem spec_l1Own.calls (A0 : Option Addr) (c0 : Nat) (l0 : List Int) (r : List Int) (w : World) (hr0 : Kd.C (Kd.int .i64) w A0 l0.length l0) (hc0 : l0.length ≤ c0) (h : spec_l1Own.f l0 = some r) :
  Calls Try.prog 66 #[.slice A0 l0.length c0] w fun e w' => ∃ v0_ : Value,e = .returned (v0_) ∧ Kd.R (Kd.int .i64) 3 w' w.heap.size (fun _ => True) v0_ r ∧ Below w.heap.size w w':=by
 have HR0:=am_ hr0;have HC0:=am_ hc0;clear hr0 hc0;have HB:=am_ (Below.refl w.heap.size w);have H : ((some (([] : List Int) : List Int)).bind fun y119 => (if y119.length + l0.length < 17592186044416 then (some (y119 ++ l0)) else (none))) = some r:=h;clear h;obtain ⟨y119,hy119⟩ : ∃ y_ : List Int,y_ = (([] : List Int)):=⟨_,rfl⟩
 replace H : (if y119.length + l0.length < 17592186044416 then (some (y119 ++ l0)) else (none)) = some r:=by (have H2_:=(Option.bind_some _ _).symm.trans H;rw [hy119];with_reducible exact H2_)
 have Ny119:=am_ hy119;clear hy119
 by_cases c2 : y119.length + l0.length < 17592186044416
 ·rw [if_pos c2] at H;have LMc2:=am_ c2;clear c2;obtain ⟨y122,hy122⟩ : ∃ y_ : List Int,y_ = (y119 ++ l0):=⟨_,rfl⟩
  replace H : (some y122) = some r:=by (rw [hy122];with_reducible exact H)
  have Ny122:=am_ hy122;clear hy122;obtain rfl:=Option.some.inj H
  go_enter Try.func66,Try.ntmps66
  go_wp2_with (first | ((with_reducible refine gate_dst (N:=3) rfl ?_);refine Kd.R_lit (Kd.int .i64) _ 3 ?hg (N:=3) ?hd (xs:=([] : List Int)) (inner := []) (ok:=fun _ => True) (okp:=fun _ => True) ?hr ?hp (fun _ hk => hk) trivial (Below.refl _ _) (Nat.le_refl _) (by simp) ?_;(case hd => rfl);(case hg => rfl);(case hr => (go_simp;done));(case hp => exact (Reps.none _ _));intro v120 w3 ho4 hb hg_ hnew_;clear hg_ hnew_;(rw [← Ny119.out] at ho4);have n0_:=am_ (Kd.R_lower ho4 (below_size (by exact HB.out)));have n1_:=am_ (below_step (by exact HB.out) hb);clear HB;have HO121:=n0_;have HB:=n1_;clear n0_ n1_;clear hb ho4) | ((with_reducible refine gate_builtin (b := .append) (xs:=#[.tmp 3, .tmp 4]) rfl ?_);at_builtin;refine Kd.R_append_rows (Kd.int .i64) (w0:=w) w.heap.size rfl (.tmp 3) (.tmp 4) 39 3 (.int .i64 0) 8 rfl Try.underlying39 info3 rfl (by decide) (by omega) v120 y119 l0 _ _ _ (fun _ => True) (fun _ => False) rfl rfl ?aO ?aR (fun _ _ h => h) (fun _ h => h.elim) ?aF ?aB ?aS ?aL ?_;(case aR => repeat (exact (Kd.C_below HR0.out HB.out)));(case aB => exact (by exact HB.out));(case aF => exact (fun _ _ => trivial));(case aO => exact (by exact HO121.out));(case aS => exact (below_size (by exact HB.out)));(case aL => have:=LMc2.out;omega);intro v123 w5 ho hb hg hat;rw [← Ny122.out] at ho;have n0_:=am_ hb;have n1_:=am_ (ho);clear HB;clear HO121;have HB:=n0_;have HO124:=n1_;clear n0_ n1_;clear ho hb hg hat))
  go_ret
  exact ⟨_,by rfl,by exact HO124.out,by exact HB.out⟩
 ·rw [if_neg c2] at H
  exact absurd H (by simp)

/-! ### spec_l19Sums: function 61 -/
def spec_l19Sums.l0 : Nat → List (S64) → List Int → Int → Int → Int → Int → Option (Int × Int)
 | 0,_,_,_,_,_,_ => none
 | k + 1,x0,x1,x2,x8,x9,x10 => if x10 < (x1.length : Int) then (if 0 ≤ x10 then (if (rd x1 x10) = x2 then (if x10 < (x0.length : Int) then (spec_l19Sums.l0 k x0 x1 x2 (wrap64 (x8 + ((rd_T64 x0 x10).f1))) (wrap64 (x9 + ((rd_T64 x0 x10).f2))) (wrap64 (x10 + 1))) else (none)) else (spec_l19Sums.l0 k x0 x1 x2 x8 x9 (wrap64 (x10 + 1)))) else (none)) else (some (x8,x9))
def spec_l19Sums.f (k : Nat) (l0 : List (S64)) (l1 : List Int) (a2 : Int) : Option (Int × Int):=spec_l19Sums.l0 k l0 l1 a2 0 0 0
theorem spec_l19Sums.mono_l : ∀ k,(∀ y0 y1 y2 y3 y4 y5,LeO (spec_l19Sums.l0 k y0 y1 y2 y3 y4 y5) (spec_l19Sums.l0 (k + 1) y0 y1 y2 y3 y4 y5))
 | 0 => fun _ _ _ _ _ _ r h => by simp [spec_l19Sums.l0] at h
 | k + 1 => by
  have ih0:=spec_l19Sums.mono_l k
  ·intro y0 y1 y2 y3 y4 y5
   unfold spec_l19Sums.l0
   repeat' first
   | (with_reducible exact ih0 _ _ _ _ _ _)
   | (with_reducible exact LeO.refl _)
   | (with_reducible exact LeO.none _)
   | (with_reducible refine LeO.ite ?_ ?_)
   | (with_reducible refine LeO.bind ?_ (fun _ => ?_))
   | exact ih0 _ _ _ _ _ _
   | exact LeO.none _
   | refine LeO.ite ?_ ?_
   | refine LeO.bind ?_ (fun _ => ?_)
theorem spec_l19Sums.mono : ∀ a0 a1 a2 k,LeO (spec_l19Sums.f k a0 a1 a2) (spec_l19Sums.f (k + 1) a0 a1 a2):=by
 intro a0 a1 a2 k;have ih0:=spec_l19Sums.mono_l k
 unfold spec_l19Sums.f
 repeat' first
   | (with_reducible exact ih0 _ _ _ _ _ _)
   | (with_reducible exact LeO.refl _)
   | (with_reducible exact LeO.none _)
   | (with_reducible refine LeO.ite ?_ ?_)
   | (with_reducible refine LeO.bind ?_ (fun _ => ?_))
   | exact ih0 _ _ _ _ _ _
   | exact LeO.none _
   | refine LeO.ite ?_ ?_
   | refine LeO.bind ?_ (fun _ => ?_)
set_option maxHeartbeats 8000000 in
set_option maxRecDepth 100000 in
theorem spec_l19Sums.calls (k : Nat) (A0 : Option Addr) (c0 : Nat) (l0 : List (S64)) (A1 : Option Addr) (c1 : Nat) (l1 : List Int) (a2 : Int) (r1 : Int) (r2 : Int) (w : World) (hr0 : Kd.C k64 w A0 l0.length l0) (hc0 : l0.length ≤ c0) (hr1 : Kd.C (Kd.int .i64) w A1 l1.length l1) (hc1 : l1.length ≤ c1) (h : spec_l19Sums.f k l0 l1 a2 = some (r1,r2)) :
  Calls Try.prog 61 #[.slice A0 l0.length c0, .slice A1 l1.length c1, .int .i64 a2] w fun e w' => e = .returned (.tuple #[.int .i64 r1, .int .i64 r2]) ∧ Drawn0 w w':=by
 have HR0:=am_ hr0;have HC0:=am_ hc0;clear hr0 hc0;have HR1:=am_ hr1;have HC1:=am_ hc1;clear hr1 hc1;have H : (spec_l19Sums.l0 k l0 l1 a2 0 0 0) = some (r1,r2):=h;clear h;have H':=am_ H;clear H
 go_enter Try.func61,Try.ntmps61
 go_wp2
 go_loopg [8,9,10] k (fun kq v8 v9 v10 w' => ∃ (x8_1 : Int) (x9_1 : Int) (x10_1 : Int),v8 = .int .i64 x8_1 ∧ v9 = .int .i64 x9_1 ∧ v10 = .int .i64 x10_1 ∧ Aside0 (spec_l19Sums.l0 kq l0 l1 a2 x8_1 x9_1 x10_1 = some (r1,r2)) ∧ Aside0 (kq ≤ k) ∧ Drawn0 w w')
 case atStart => exact ⟨(0),(0),(0),(by rfl),(by rfl),(by rfl),H',⟨Nat.le_refl _⟩,by repeat (exact Drawn0.refl _)⟩
 case round =>
  clear H';(try clear c1);(try clear p2);obtain ⟨x8_1,x9_1,x10_1,rfl,rfl,rfl,HA,HK1,⟨m1,rfl⟩⟩ := hrel
  cases gk with
  | zero => exact absurd HA.out (by simp [spec_l19Sums.l0])
  | succ k1 =>
   have H:=HA.out;clear HA;simp only [spec_l19Sums.l0] at H
   by_cases c4 : x10_1 < (l1.length : Int)
   ·rw [if_pos c4] at H;have c4b0 : decide (x10_1 < (l1.length : Int)) = true:=decide_eq_true c4;clear c4
    by_cases c5 : 0 ≤ x10_1
    ·rw [if_pos c5] at H;have c5b0 : decide (0 ≤ x10_1) = true:=decide_eq_true c5;clear c5
     by_cases c6 : (rd l1 x10_1) = a2
     ·rw [if_pos c6] at H;have c6b0 : ((rd l1 x10_1) == a2) = true:=beq_iff_eq.mpr c6;have c6b1 : ((rd l1 x10_1) != a2) = false:=bne_eq_false_iff_eq.mpr c6;clear c6
      by_cases c7 : x10_1 < (l0.length : Int)
      ·rw [if_pos c7] at H;have c7b0 : decide (x10_1 < (l0.length : Int)) = true:=decide_eq_true c7;clear c7;have H':=am_ H;clear H;have p125 : 0 ≤ (x10_1 : Int):=of_decide_eq_true (by (with_reducible assumption));have q125 : x10_1 < (l1.length : Int):=of_decide_eq_true (by (with_reducible assumption));obtain ⟨ad125,e125,hx125_0⟩ := Kd.at_int HR1.out x10_1 p125 q125;cases e125;replace p125:=eq_true p125;replace q125:=eq_true q125;have p126 : 0 ≤ (x10_1 : Int):=of_decide_eq_true (by (with_reducible assumption));have q126 : x10_1 < (l0.length : Int):=of_decide_eq_true (by (with_reducible assumption));obtain ⟨ad126,e126,hx126_0,hx126_1,hx126_2,hx126_3,hx126_4⟩ := at_T64 HR0.out x10_1 p126 q126;cases e126;replace p126:=eq_true p126;replace q126:=eq_true q126;have p127 : 0 ≤ (x10_1 : Int):=of_decide_eq_true (by (with_reducible assumption));have q127 : x10_1 < (l0.length : Int):=of_decide_eq_true (by (with_reducible assumption));obtain ⟨ad127,e127,hx127_0,hx127_1,hx127_2,hx127_3,hx127_4⟩ := at_T64 HR0.out x10_1 p127 q127;obtain rfl : ad126 = ad127:=(by injection e127);replace p127:=eq_true p127;replace q127:=eq_true q127
       go_wp2
       go_roundg k1
       case measure => have:=HK1.out;omega
       case rel => exact ⟨(wrap64 (x8_1 + ((rd_T64 l0 x10_1).f1))),(wrap64 (x9_1 + ((rd_T64 l0 x10_1).f2))),(wrap64 (x10_1 + 1)),(by rfl),(by rfl),(by rfl),H',⟨by have:=HK1.out;omega⟩,by repeat (first | exact Drawn0.refl _ | apply Drawn0.step)⟩
      ·rw [if_neg c7] at H
       exact absurd H (by simp)
     ·rw [if_neg c6] at H;have c6b0 : ((rd l1 x10_1) == a2) = false:=beq_eq_false_iff_ne.mpr c6;have c6b1 : ((rd l1 x10_1) != a2) = true:=bne_iff_ne.mpr c6;have H':=am_ H;clear H;have p125 : 0 ≤ (x10_1 : Int):=of_decide_eq_true (by (with_reducible assumption));have q125 : x10_1 < (l1.length : Int):=of_decide_eq_true (by (with_reducible assumption));obtain ⟨ad125,e125,hx125_0⟩ := Kd.at_int HR1.out x10_1 p125 q125;cases e125;replace p125:=eq_true p125;replace q125:=eq_true q125
      go_wp2
      go_roundg k1
      case measure => have:=HK1.out;omega
      case rel => exact ⟨(x8_1),(x9_1),(wrap64 (x10_1 + 1)),(by rfl),(by rfl),(by rfl),H',⟨by have:=HK1.out;omega⟩,by repeat (first | exact Drawn0.refl _ | apply Drawn0.step)⟩
    ·rw [if_neg c5] at H
     exact absurd H (by simp)
   ·rw [if_neg c4] at H;have c4b0 : decide (x10_1 < (l1.length : Int)) = false:=decide_eq_false c4;clear c4;simp only [Option.some.injEq,Prod.mk.injEq] at H;obtain ⟨rfl,rfl⟩ := H
    go_wp2
    go_ret2
    exact ⟨by rfl,by repeat (first | exact Drawn0.refl _ | apply Drawn0.step)⟩

/-! ### spec_l19Fits: function 67 -/
def spec_l19Fits.l0 : Nat → List (S54) → List (S64) → List Int → Int → Option (Bool)
 | 0,_,_,_,_ => none
 | k + 1,x0,x1,x2,x7 => if x7 < (x0.length : Int) then ((spec_l19Sums.f k x1 x2 x7).bind fun bt128 => (if 0 ≤ x7 then (if bt128.1 > ((rd_T54 x0 x7).f0) then (some false) else (if bt128.2 > ((rd_T54 x0 x7).f1) then (some false) else (spec_l19Fits.l0 k x0 x1 x2 (wrap64 (x7 + 1))))) else (none))) else (some true)
def spec_l19Fits.f (k : Nat) (l0 : List (S54)) (l1 : List (S64)) (l2 : List Int) : Option (Bool):=spec_l19Fits.l0 k l0 l1 l2 0
theorem spec_l19Fits.mono_l : ∀ k,(∀ y0 y1 y2 y3,LeO (spec_l19Fits.l0 k y0 y1 y2 y3) (spec_l19Fits.l0 (k + 1) y0 y1 y2 y3))
 | 0 => fun _ _ _ _ r h => by simp [spec_l19Fits.l0] at h
 | k + 1 => by
  have ih0:=spec_l19Fits.mono_l k
  ·intro y0 y1 y2 y3
   unfold spec_l19Fits.l0
   repeat' first
   | (with_reducible exact ih0 _ _ _ _)
   | (with_reducible exact spec_l19Sums.mono _ _ _ _)
   | (with_reducible exact LeO.refl _)
   | (with_reducible exact LeO.none _)
   | (with_reducible refine LeO.ite ?_ ?_)
   | (with_reducible refine LeO.bind ?_ (fun _ => ?_))
   | exact ih0 _ _ _ _
   | exact spec_l19Sums.mono _ _ _ _
   | exact LeO.none _
   | refine LeO.ite ?_ ?_
   | refine LeO.bind ?_ (fun _ => ?_)
theorem spec_l19Fits.mono : ∀ a0 a1 a2 k,LeO (spec_l19Fits.f k a0 a1 a2) (spec_l19Fits.f (k + 1) a0 a1 a2):=by
 intro a0 a1 a2 k;have ih0:=spec_l19Fits.mono_l k
 unfold spec_l19Fits.f
 repeat' first
   | (with_reducible exact ih0 _ _ _ _)
   | (with_reducible exact spec_l19Sums.mono _ _ _ _)
   | (with_reducible exact LeO.refl _)
   | (with_reducible exact LeO.none _)
   | (with_reducible refine LeO.ite ?_ ?_)
   | (with_reducible refine LeO.bind ?_ (fun _ => ?_))
   | exact ih0 _ _ _ _
   | exact spec_l19Sums.mono _ _ _ _
   | exact LeO.none _
   | refine LeO.ite ?_ ?_
   | refine LeO.bind ?_ (fun _ => ?_)
set_option maxHeartbeats 8000000 in
set_option maxRecDepth 100000 in
theorem spec_l19Fits.calls (k : Nat) (A0 : Option Addr) (c0 : Nat) (l0 : List (S54)) (A1 : Option Addr) (c1 : Nat) (l1 : List (S64)) (A2 : Option Addr) (c2 : Nat) (l2 : List Int) (r : Bool) (w : World) (hr0 : Kd.C k54 w A0 l0.length l0) (hc0 : l0.length ≤ c0) (hr1 : Kd.C k64 w A1 l1.length l1) (hc1 : l1.length ≤ c1) (hr2 : Kd.C (Kd.int .i64) w A2 l2.length l2) (hc2 : l2.length ≤ c2) (h : spec_l19Fits.f k l0 l1 l2 = some r) :
  Calls Try.prog 67 #[.slice A0 l0.length c0, .slice A1 l1.length c1, .slice A2 l2.length c2] w fun e w' => e = .returned (.bool r) ∧ Drawn0 w w':=by
 have HR0:=am_ hr0;have HC0:=am_ hc0;clear hr0 hc0;have HR1:=am_ hr1;have HC1:=am_ hc1;clear hr1 hc1;have HR2:=am_ hr2;have HC2:=am_ hc2;clear hr2 hc2;have H : (spec_l19Fits.l0 k l0 l1 l2 0) = some r:=h;clear h;have H':=am_ H;clear H
 go_enter Try.func67,Try.ntmps67
 go_wp2
 go_loopg [7] k (fun kq v7 w' => ∃ (x7_1 : Int),v7 = .int .i64 x7_1 ∧ Aside0 (spec_l19Fits.l0 kq l0 l1 l2 x7_1 = some r) ∧ Aside0 (kq ≤ k) ∧ Drawn0 w w')
 case atStart => exact ⟨(0),(by rfl),H',⟨Nat.le_refl _⟩,by repeat (exact Drawn0.refl _)⟩
 case round =>
  clear H';(try clear c1);(try clear c2);(try clear p2);obtain ⟨x7_1,rfl,HA,HK1,⟨m1,rfl⟩⟩ := hrel
  cases gk with
  | zero => exact absurd HA.out (by simp [spec_l19Fits.l0])
  | succ k1 =>
   have H:=HA.out;clear HA;simp only [spec_l19Fits.l0] at H
   by_cases c4 : x7_1 < (l0.length : Int)
   ·rw [if_pos c4] at H;have c4b0 : decide (x7_1 < (l0.length : Int)) = true:=decide_eq_true c4;clear c4;replace H:=Option.bind_eq_some_iff.mp H;obtain ⟨⟨t128,t129⟩,A50,H⟩ := H;replace H : (if 0 ≤ x7_1 then (if t128 > ((rd_T54 l0 x7_1).f0) then (some false) else (if t129 > ((rd_T54 l0 x7_1).f1) then (some false) else (spec_l19Fits.l0 k1 l0 l1 l2 (wrap64 (x7_1 + 1))))) else (none)) = some r:=H;have A5:=am_ A50;clear A50
    by_cases c6 : 0 ≤ x7_1
    ·rw [if_pos c6] at H;have c6b0 : decide (0 ≤ x7_1) = true:=decide_eq_true c6;clear c6
     by_cases c7 : t128 > ((rd_T54 l0 x7_1).f0)
     ·rw [if_pos c7] at H;have c7b0 : decide (((rd_T54 l0 x7_1).f0) < t128) = true:=decide_eq_true c7;clear c7;obtain rfl:=Option.some.inj H
      go_wp2_with (((with_reducible refine gate_callee (f:=61) rfl ?_);refine goesL_ (some 20) rfl rfl Try.func61 (by kernel_rfl) rfl #[.slice A1 l1.length c1, .slice A2 l2.length c2, .int .i64 x7_1] rfl (by (try simp only [List.map_toArray,List.map_cons,List.map_nil]);rfl) ?_;(with_reducible refine (spec_l19Sums.calls k1 _ _ l1 _ _ l2 x7_1 t128 t129 _ ?side1 ?side2 ?side3 ?side4 A5.out).mono ?_);(case side1 => repeat (exact HR1.out));(case side2 => exact HC1.out);(case side3 => repeat (exact HR2.out));(case side4 => exact HC2.out);rintro e w' ⟨rfl,⟨nd,rfl⟩⟩;refine ⟨_,rfl, ?_⟩;have p130 : 0 ≤ (x7_1 : Int):=of_decide_eq_true (by (with_reducible assumption));have q130 : x7_1 < (l0.length : Int):=of_decide_eq_true (by (with_reducible assumption));obtain ⟨ad130,e130,hx130_0,hx130_1⟩ := at_T54 HR0.out x7_1 p130 q130;cases e130;replace p130:=eq_true p130;replace q130:=eq_true q130))
      go_ret
      exact ⟨by rfl,by repeat (first | exact Drawn0.refl _ | apply Drawn0.step)⟩
     ·rw [if_neg c7] at H;have c7b0 : decide (((rd_T54 l0 x7_1).f0) < t128) = false:=decide_eq_false c7;clear c7
      by_cases c8 : t129 > ((rd_T54 l0 x7_1).f1)
      ·rw [if_pos c8] at H;have c8b0 : decide (((rd_T54 l0 x7_1).f1) < t129) = true:=decide_eq_true c8;clear c8;obtain rfl:=Option.some.inj H
       go_wp2_with (((with_reducible refine gate_callee (f:=61) rfl ?_);refine goesL_ (some 20) rfl rfl Try.func61 (by kernel_rfl) rfl #[.slice A1 l1.length c1, .slice A2 l2.length c2, .int .i64 x7_1] rfl (by (try simp only [List.map_toArray,List.map_cons,List.map_nil]);rfl) ?_;(with_reducible refine (spec_l19Sums.calls k1 _ _ l1 _ _ l2 x7_1 t128 t129 _ ?side1 ?side2 ?side3 ?side4 A5.out).mono ?_);(case side1 => repeat (exact HR1.out));(case side2 => exact HC1.out);(case side3 => repeat (exact HR2.out));(case side4 => exact HC2.out);rintro e w' ⟨rfl,⟨nd,rfl⟩⟩;refine ⟨_,rfl, ?_⟩;have p130 : 0 ≤ (x7_1 : Int):=of_decide_eq_true (by (with_reducible assumption));have q130 : x7_1 < (l0.length : Int):=of_decide_eq_true (by (with_reducible assumption));obtain ⟨ad130,e130,hx130_0,hx130_1⟩ := at_T54 HR0.out x7_1 p130 q130;cases e130;replace p130:=eq_true p130;replace q130:=eq_true q130;have p131 : 0 ≤ (x7_1 : Int):=of_decide_eq_true (by (with_reducible assumption));have q131 : x7_1 < (l0.length : Int):=of_decide_eq_true (by (with_reducible assumption));obtain ⟨ad131,e131,hx131_0,hx131_1⟩ := at_T54 HR0.out x7_1 p131 q131;obtain rfl : ad130 = ad131:=(by injection e131);replace p131:=eq_true p131;replace q131:=eq_true q131))
       go_ret
       exact ⟨by rfl,by repeat (first | exact Drawn0.refl _ | apply Drawn0.step)⟩
      ·rw [if_neg c8] at H;have c8b0 : decide (((rd_T54 l0 x7_1).f1) < t129) = false:=decide_eq_false c8;clear c8;have H':=am_ H;clear H
       go_wp2_with (((with_reducible refine gate_callee (f:=61) rfl ?_);refine goesL_ (some 20) rfl rfl Try.func61 (by kernel_rfl) rfl #[.slice A1 l1.length c1, .slice A2 l2.length c2, .int .i64 x7_1] rfl (by (try simp only [List.map_toArray,List.map_cons,List.map_nil]);rfl) ?_;(with_reducible refine (spec_l19Sums.calls k1 _ _ l1 _ _ l2 x7_1 t128 t129 _ ?side1 ?side2 ?side3 ?side4 A5.out).mono ?_);(case side1 => repeat (exact HR1.out));(case side2 => exact HC1.out);(case side3 => repeat (exact HR2.out));(case side4 => exact HC2.out);rintro e w' ⟨rfl,⟨nd,rfl⟩⟩;refine ⟨_,rfl, ?_⟩;have p130 : 0 ≤ (x7_1 : Int):=of_decide_eq_true (by (with_reducible assumption));have q130 : x7_1 < (l0.length : Int):=of_decide_eq_true (by (with_reducible assumption));obtain ⟨ad130,e130,hx130_0,hx130_1⟩ := at_T54 HR0.out x7_1 p130 q130;cases e130;replace p130:=eq_true p130;replace q130:=eq_true q130;have p131 : 0 ≤ (x7_1 : Int):=of_decide_eq_true (by (with_reducible assumption));have q131 : x7_1 < (l0.length : Int):=of_decide_eq_true (by (with_reducible assumption));obtain ⟨ad131,e131,hx131_0,hx131_1⟩ := at_T54 HR0.out x7_1 p131 q131;obtain rfl : ad130 = ad131:=(by injection e131);replace p131:=eq_true p131;replace q131:=eq_true q131))
       go_roundg k1
       case measure => have:=HK1.out;omega
       case rel => exact ⟨(wrap64 (x7_1 + 1)),(by rfl),H',⟨by have:=HK1.out;omega⟩,by repeat (first | exact Drawn0.refl _ | apply Drawn0.step)⟩
    ·rw [if_neg c6] at H
     exact absurd H (by simp)
   ·rw [if_neg c4] at H;have c4b0 : decide (x7_1 < (l0.length : Int)) = false:=decide_eq_false c4;clear c4;obtain rfl:=Option.some.inj H
    go_wp2
    go_ret
    exact ⟨by rfl,by repeat (first | exact Drawn0.refl _ | apply Drawn0.step)⟩

/-! ### spec_l1Most: function 68 -/
def spec_l1Most.f (a0 : Int) (a1 : Int) : Option (Int):=if a0 > a1 then (some a0) else (some a1)
set_option maxHeartbeats 8000000 in
set_option maxRecDepth 100000 in
theorem spec_l1Most.calls (a0 : Int) (a1 : Int) (r : Int) (w : World) (h : spec_l1Most.f a0 a1 = some r) :
  Calls Try.prog 68 #[.int .i64 a0, .int .i64 a1] w fun e w' => e = .returned (.int .i64 r) ∧ Drawn0 w w':=by
 have H : (if a0 > a1 then (some a0) else (some a1)) = some r:=h;clear h
 by_cases c3 : a0 > a1
 ·rw [if_pos c3] at H;have c3b0 : decide (a1 < a0) = true:=decide_eq_true c3;clear c3;obtain rfl:=Option.some.inj H
  go_enter Try.func68,Try.ntmps68
  go_wp2
  go_ret
  exact ⟨by rfl,by repeat (exact Drawn0.refl _)⟩
 ·rw [if_neg c3] at H;have c3b0 : decide (a1 < a0) = false:=decide_eq_false c3;clear c3;obtain rfl:=Option.some.inj H
  go_enter Try.func68,Try.ntmps68
  go_wp2
  go_ret
  exact ⟨by rfl,by repeat (exact Drawn0.refl _)⟩

/-! ### spec_l19Most: function 33 -/
mutual
def spec_l19Most.l0 : Nat → List (S54) → List (S64) → List Int → Int → Int → Int → Option (Int)
 | 0,_,_,_,_,_,_ => none
 | k + 1,x0,x1,x2,x3,x9,x10 => if x10 < (x0.length : Int) then ((spec_l1Own.f x2).bind fun t139 => (if t139.length < 17592186044416 then ((some (t139 ++ [x10] : List Int)).bind fun y142 => ((spec_l19Fits.f k x0 x1 y142).bind fun t145 => (if t145 = true then ((spec_l19Most.f k x0 x1 y142 (wrap64 (x3 + 1))).bind fun t146 => ((spec_l1Most.f x9 t146).bind fun t147 => (spec_l19Most.l0 k x0 x1 x2 x3 t147 (wrap64 (x10 + 1))))) else (spec_l19Most.l0 k x0 x1 x2 x3 x9 (wrap64 (x10 + 1)))))) else (none))) else (some x9)
def spec_l19Most.f : Nat → List (S54) → List (S64) → List Int → Int → Option (Int)
 | 0,_,_,_,_ => none
 | k + 1,l0,l1,l2,a3 => if (l2.length : Int) = (l1.length : Int) then (some a3) else ((spec_l1Own.f l2).bind fun t132 => (if t132.length < 17592186044416 then ((spec_l19Most.f k l0 l1 (t132 ++ [(-1)]) a3).bind fun t138 => (spec_l19Most.l0 k l0 l1 l2 a3 t138 0)) else (none)))
end
theorem spec_l19Most.mono_l : ∀ k,(∀ y0 y1 y2 y3,LeO (spec_l19Most.f k y0 y1 y2 y3) (spec_l19Most.f (k + 1) y0 y1 y2 y3)) ∧ (∀ y0 y1 y2 y3 y4 y5,LeO (spec_l19Most.l0 k y0 y1 y2 y3 y4 y5) (spec_l19Most.l0 (k + 1) y0 y1 y2 y3 y4 y5))
 | 0 => ⟨fun _ _ _ _ r h => by simp [spec_l19Most.f] at h,fun _ _ _ _ _ _ r h => by simp [spec_l19Most.l0] at h⟩
 | k + 1 => by
  obtain ⟨ih0,ih1⟩ := spec_l19Most.mono_l k;refine ⟨?_, ?_⟩
  ·intro y0 y1 y2 y3
   unfold spec_l19Most.f
   repeat' first
   | (with_reducible exact ih0 _ _ _ _)
   | (with_reducible exact ih1 _ _ _ _ _ _)
   | (with_reducible exact spec_l19Fits.mono _ _ _ _)
   | (with_reducible exact LeO.refl _)
   | (with_reducible exact LeO.none _)
   | (with_reducible refine LeO.ite ?_ ?_)
   | (with_reducible refine LeO.bind ?_ (fun _ => ?_))
   | exact ih0 _ _ _ _
   | exact ih1 _ _ _ _ _ _
   | exact spec_l19Fits.mono _ _ _ _
   | exact LeO.none _
   | refine LeO.ite ?_ ?_
   | refine LeO.bind ?_ (fun _ => ?_)
  ·intro y0 y1 y2 y3 y4 y5
   unfold spec_l19Most.l0
   repeat' first
   | (with_reducible exact ih0 _ _ _ _)
   | (with_reducible exact ih1 _ _ _ _ _ _)
   | (with_reducible exact spec_l19Fits.mono _ _ _ _)
   | (with_reducible exact LeO.refl _)
   | (with_reducible exact LeO.none _)
   | (with_reducible refine LeO.ite ?_ ?_)
   | (with_reducible refine LeO.bind ?_ (fun _ => ?_))
   | exact ih0 _ _ _ _
   | exact ih1 _ _ _ _ _ _
   | exact spec_l19Fits.mono _ _ _ _
   | exact LeO.none _
   | refine LeO.ite ?_ ?_
   | refine LeO.bind ?_ (fun _ => ?_)
theorem spec_l19Most.mono : ∀ a0 a1 a2 a3 k,LeO (spec_l19Most.f k a0 a1 a2 a3) (spec_l19Most.f (k + 1) a0 a1 a2 a3):=by
 intro a0 a1 a2 a3 k;obtain ⟨ih0,ih1⟩ := spec_l19Most.mono_l k
 exact ih0 a0 a1 a2 a3
set_option maxHeartbeats 8000000 in
set_option maxRecDepth 100000 in
theorem spec_l19Most.calls (k : Nat) : ∀ (A0 : Option Addr) (c0 : Nat) (l0 : List (S54)) (A1 : Option Addr) (c1 : Nat) (l1 : List (S64)) (A2 : Option Addr) (c2 : Nat) (l2 : List Int) (a3 : Int) (r : Int) (w : World) (hr0 : Kd.C k54 w A0 l0.length l0) (hc0 : l0.length ≤ c0) (hr1 : Kd.C k64 w A1 l1.length l1) (hc1 : l1.length ≤ c1) (hr2 : Kd.C (Kd.int .i64) w A2 l2.length l2) (hc2 : l2.length ≤ c2) (h : spec_l19Most.f k l0 l1 l2 a3 = some r),
  Calls Try.prog 33 #[.slice A0 l0.length c0, .slice A1 l1.length c1, .slice A2 l2.length c2, .int .i64 a3] w fun e w' => e = .returned (.int .i64 r) ∧ Below w.heap.size w w':=by
 induction k using Nat.strongRecOn with
 | _ k ih =>
 intro A0 c0 l0 A1 c1 l1 A2 c2 l2 a3 r w hr0 hc0 hr1 hc1 hr2 hc2 h
 cases k with
 | zero => exact absurd h (by simp [spec_l19Most.f])
 | succ k =>
 simp only [spec_l19Most.f] at h;have HR0:=am_ hr0;have HC0:=am_ hc0;clear hr0 hc0;have HR1:=am_ hr1;have HC1:=am_ hc1;clear hr1 hc1;have HR2:=am_ hr2;have HC2:=am_ hc2;clear hr2 hc2;have HB:=am_ (Below.refl w.heap.size w);have H : (if (l2.length : Int) = (l1.length : Int) then (some a3) else ((spec_l1Own.f l2).bind fun t132 => (if t132.length < 17592186044416 then ((spec_l19Most.f k l0 l1 (t132 ++ [(-1)]) a3).bind fun t138 => (spec_l19Most.l0 k l0 l1 l2 a3 t138 0)) else (none)))) = some r:=h;clear h
 by_cases c5 : (l2.length : Int) = (l1.length : Int)
 ·rw [if_pos c5] at H;have c5b0 : ((l2.length : Int) == (l1.length : Int)) = true:=beq_iff_eq.mpr c5;have c5b1 : ((l2.length : Int) != (l1.length : Int)) = false:=bne_eq_false_iff_eq.mpr c5
  have c5b2 : (l2.length == l1.length) = true:=by (simp at c5 ⊢;omega)
  clear c5;obtain rfl:=Option.some.inj H
  go_enter Try.func33,Try.ntmps33
  go_wp2
  go_ret
  exact ⟨by rfl,by exact HB.out⟩
 ·rw [if_neg c5] at H;have c5b0 : ((l2.length : Int) == (l1.length : Int)) = false:=beq_eq_false_iff_ne.mpr c5;have c5b1 : ((l2.length : Int) != (l1.length : Int)) = true:=bne_iff_ne.mpr c5
  have c5b2 : (l2.length == l1.length) = false:=by (simp at c5 ⊢;omega)
  replace H:=Option.bind_eq_some_iff.mp H;obtain ⟨t132,A60,H⟩ := H;replace H : (if t132.length < 17592186044416 then ((spec_l19Most.f k l0 l1 (t132 ++ [(-1)]) a3).bind fun t138 => (spec_l19Most.l0 k l0 l1 l2 a3 t138 0)) else (none)) = some r:=H;have A6:=am_ A60;clear A60
  by_cases c7 : t132.length < 17592186044416
  ·rw [if_pos c7] at H;have LMc7:=am_ c7;clear c7;obtain ⟨y135,hy135⟩ : ∃ y_ : List Int,y_ = (t132 ++ [(-1)]):=⟨_,rfl⟩
   replace H : ((spec_l19Most.f k l0 l1 y135 a3).bind fun t138 => (spec_l19Most.l0 k l0 l1 l2 a3 t138 0)) = some r:=by (rw [hy135];with_reducible exact H)
   have Ny135:=am_ hy135;clear hy135;replace H:=Option.bind_eq_some_iff.mp H;obtain ⟨t138,A80,H⟩ := H;replace H : (spec_l19Most.l0 k l0 l1 l2 a3 t138 0) = some r:=H;have A8:=am_ A80;clear A80;have H':=am_ H;clear H
   go_enter Try.func33,Try.ntmps33
   go_wp2_with (first | ((with_reducible refine gate_callee (f:=66) rfl ?_);refine goesL_ (some 21) rfl rfl Try.func66 (by kernel_rfl) rfl #[.slice A2 l2.length c2] rfl (by (try simp only [List.map_toArray,List.map_cons,List.map_nil]);rfl) ?_;(with_reducible refine (spec_l1Own.calls _ _ l2 t132 _ ?side1 ?side2 A6.out).mono ?_);(case side1 => repeat (exact HR2.out));(case side2 => exact HC2.out);rintro e w9 ⟨v133,rfl,ho0,hb⟩;refine ⟨_,rfl, ?_⟩;have n0_:=am_ (Kd.R_lower ho0 (below_size (by exact HB.out)));have n1_:=am_ (below_step (by exact HB.out) hb);clear HB;have HO134:=n0_;have HB:=n1_;clear n0_ n1_;(try clear hb);(try clear ho0)) | ((with_reducible refine gate_builtin (b := .append) (xs:=#[.tmp 21, .tmp 22]) rfl ?_);at_builtin;refine Kd.R_append (Kd.int .i64) (w0:=w) w.heap.size rfl (.tmp 21) (.tmp 22) 39 3 (.int .i64 0) 8 rfl Try.underlying39 info3 rfl (by decide) (by omega) v133 t132 (-1) [.int .i64 (-1)] (fun _ => True) (fun _ => False) rfl rfl ?aP (fun _ hk => hk.elim) ?aF ?aO ?aB ?aS ?aL ?_;(case aP => exact rfl);(case aB => exact (by exact HB.out));(case aF => exact (fun _ _ => trivial));(case aO => exact (by exact HO134.out));(case aS => exact (below_size (by exact HB.out)));(case aL => have:=LMc7.out;omega);intro v136 w10 ho hb hg hat;rw [← Ny135.out] at ho;have n0_:=am_ hb;have n1_:=am_ (ho);clear HB;clear HO134;have HB:=n0_;have HO137:=n1_;clear n0_ n1_;clear ho hb hg hat;obtain ⟨Ao11,co11,eo11⟩ := Kd.R_slice HO137.out;subst eo11) | ((with_reducible refine gate_callee (f:=33) rfl ?_);refine goesL_ (some 25) rfl rfl Try.func33 (by kernel_rfl) rfl #[.slice A0 l0.length c0, .slice A1 l1.length c1, .slice Ao11 y135.length co11, .int .i64 a3] rfl (by (try simp only [List.map_toArray,List.map_cons,List.map_nil]);rfl) ?_;(with_reducible refine (ih k (by omega) _ _ l0 _ _ l1 _ _ y135 a3 t138 _ ?side1 ?side2 ?side3 ?side4 ?side5 ?side6 A8.out).mono ?_);(case side1 => repeat (exact (Kd.C_below HR0.out HB.out)));(case side2 => exact HC0.out);(case side3 => repeat (exact (Kd.C_below HR1.out HB.out)));(case side4 => exact HC1.out);(case side5 => repeat (exact (Kd.R_reads' HO137.out).2.2));(case side6 => exact (Kd.R_reads' HO137.out).2.1);rintro e w12 ⟨rfl,hb⟩;refine ⟨_,rfl, ?_⟩;have n0_:=am_ (Kd.R_below (by exact HO137.out) hb);have n1_:=am_ (below_step (by exact HB.out) hb);clear HO137;clear HB;have HO137:=n0_;have HB:=n1_;clear n0_ n1_;(try clear hb)))
   (skip)
   go_loopg [9,10] k (fun kq v9 v10 w' => ∃ (x9_1 : Int) (x10_1 : Int),v9 = .int .i64 x9_1 ∧ v10 = .int .i64 x10_1 ∧ Aside0 (spec_l19Most.l0 kq l0 l1 l2 a3 x9_1 x10_1 = some r) ∧ Aside0 (kq ≤ k) ∧ Aside0 (Below w.heap.size w w'))
   case atStart => exact ⟨(t138),(0),(by rfl),(by rfl),H',⟨Nat.le_refl _⟩,⟨by exact HB.out⟩⟩
   case round =>
    clear H';(try clear c1);(try clear c2);(try clear p2);(try clear c3);(try clear c5);(try clear c5b0);(try clear c5b1);(try clear c5b2);(try clear c6);(try clear c7);obtain ⟨x9_1,x10_1,rfl,rfl,HA,HK1,HB⟩ := hrel
    cases gk with
    | zero => exact absurd HA.out (by simp [spec_l19Most.l0])
    | succ k1 =>
     have H:=HA.out;clear HA;simp only [spec_l19Most.l0] at H
     by_cases c13 : x10_1 < (l0.length : Int)
     ·rw [if_pos c13] at H;have c13b0 : decide (x10_1 < (l0.length : Int)) = true:=decide_eq_true c13;clear c13;replace H:=Option.bind_eq_some_iff.mp H;obtain ⟨t139,A140,H⟩ := H;replace H : (if t139.length < 17592186044416 then ((some (t139 ++ [x10_1] : List Int)).bind fun y142 => ((spec_l19Fits.f k1 l0 l1 y142).bind fun t145 => (if t145 = true then ((spec_l19Most.f k1 l0 l1 y142 (wrap64 (a3 + 1))).bind fun t146 => ((spec_l1Most.f x9_1 t146).bind fun t147 => (spec_l19Most.l0 k1 l0 l1 l2 a3 t147 (wrap64 (x10_1 + 1))))) else (spec_l19Most.l0 k1 l0 l1 l2 a3 x9_1 (wrap64 (x10_1 + 1)))))) else (none)) = some r:=H;have A14:=am_ A140;clear A140
      by_cases c15 : t139.length < 17592186044416
      ·rw [if_pos c15] at H;have LMc15:=am_ c15;clear c15;obtain ⟨y142,hy142⟩ : ∃ y_ : List Int,y_ = (t139 ++ [x10_1]):=⟨_,rfl⟩
       replace H : ((spec_l19Fits.f k1 l0 l1 y142).bind fun t145 => (if t145 = true then ((spec_l19Most.f k1 l0 l1 y142 (wrap64 (a3 + 1))).bind fun t146 => ((spec_l1Most.f x9_1 t146).bind fun t147 => (spec_l19Most.l0 k1 l0 l1 l2 a3 t147 (wrap64 (x10_1 + 1))))) else (spec_l19Most.l0 k1 l0 l1 l2 a3 x9_1 (wrap64 (x10_1 + 1))))) = some r:=by (have H2_:=(Option.bind_some _ _).symm.trans H;rw [hy142];with_reducible exact H2_)
       have Ny142:=am_ hy142;clear hy142;replace H:=Option.bind_eq_some_iff.mp H;obtain ⟨t145,A160,H⟩ := H;replace H : (if t145 = true then ((spec_l19Most.f k1 l0 l1 y142 (wrap64 (a3 + 1))).bind fun t146 => ((spec_l1Most.f x9_1 t146).bind fun t147 => (spec_l19Most.l0 k1 l0 l1 l2 a3 t147 (wrap64 (x10_1 + 1))))) else (spec_l19Most.l0 k1 l0 l1 l2 a3 x9_1 (wrap64 (x10_1 + 1)))) = some r:=H;have A16:=am_ A160;clear A160
       by_cases c17 : t145 = true
       ·subst c17
        have H1 : ((spec_l19Most.f k1 l0 l1 y142 (wrap64 (a3 + 1))).bind fun t146 => ((spec_l1Most.f x9_1 t146).bind fun t147 => (spec_l19Most.l0 k1 l0 l1 l2 a3 t147 (wrap64 (x10_1 + 1))))) = some r:=by rw [if_pos rfl] at H;exact H
        clear H;have H:=H1;clear H1;replace H:=Option.bind_eq_some_iff.mp H;obtain ⟨t146,A180,H⟩ := H;replace H : ((spec_l1Most.f x9_1 t146).bind fun t147 => (spec_l19Most.l0 k1 l0 l1 l2 a3 t147 (wrap64 (x10_1 + 1)))) = some r:=H;have A18:=am_ A180;clear A180;replace H:=Option.bind_eq_some_iff.mp H;obtain ⟨t147,A190,H⟩ := H;replace H : (spec_l19Most.l0 k1 l0 l1 l2 a3 t147 (wrap64 (x10_1 + 1))) = some r:=H;have A19:=am_ A190;clear A190;have H':=am_ H;clear H
        go_wp2_with (first | ((with_reducible refine gate_callee (f:=66) rfl ?_);refine goesL_ (some 33) rfl rfl Try.func66 (by kernel_rfl) rfl #[.slice A2 l2.length c2] rfl (by (try simp only [List.map_toArray,List.map_cons,List.map_nil]);rfl) ?_;(with_reducible refine (spec_l1Own.calls _ _ l2 t139 _ ?side1 ?side2 A14.out).mono ?_);(case side1 => repeat (exact (Kd.C_below HR2.out HB.out)));(case side2 => exact HC2.out);rintro e w20 ⟨v140,rfl,ho0,hb⟩;refine ⟨_,rfl, ?_⟩;have n0_:=am_ (Kd.R_lower ho0 (below_size (by exact HB.out)));have n1_:=am_ (below_step (by exact HB.out) hb);clear HB;have HO141:=n0_;have HB:=n1_;clear n0_ n1_;(try clear hb);(try clear ho0)) | ((with_reducible refine gate_builtin (b := .append) (xs:=#[.tmp 33, .tmp 35]) rfl ?_);at_builtin;refine Kd.R_append (Kd.int .i64) (w0:=w) w.heap.size rfl (.tmp 33) (.tmp 35) 39 3 (.int .i64 0) 8 rfl Try.underlying39 info3 rfl (by decide) (by omega) v140 t139 x10_1 [.int .i64 x10_1] (fun _ => True) (fun _ => False) rfl rfl ?aP (fun _ hk => hk.elim) ?aF ?aO ?aB ?aS ?aL ?_;(case aP => exact rfl);(case aB => exact (by exact HB.out));(case aF => exact (fun _ _ => trivial));(case aO => exact (by exact HO141.out));(case aS => exact (below_size (by exact HB.out)));(case aL => have:=LMc15.out;omega);intro v143 w21 ho hb hg hat;rw [← Ny142.out] at ho;have n0_:=am_ hb;have n1_:=am_ (ho);clear HB;clear HO141;have HB:=n0_;have HO144:=n1_;clear n0_ n1_;clear ho hb hg hat;obtain ⟨Ao22,co22,eo22⟩ := Kd.R_slice HO144.out;subst eo22) | ((with_reducible refine gate_callee (f:=67) rfl ?_);refine goesL_ (some 40) rfl rfl Try.func67 (by kernel_rfl) rfl #[.slice A0 l0.length c0, .slice A1 l1.length c1, .slice Ao22 y142.length co22] rfl (by (try simp only [List.map_toArray,List.map_cons,List.map_nil]);rfl) ?_;(with_reducible refine (spec_l19Fits.calls k1 _ _ l0 _ _ l1 _ _ y142 true _ ?side1 ?side2 ?side3 ?side4 ?side5 ?side6 A16.out).mono ?_);(case side1 => repeat (exact (Kd.C_below HR0.out HB.out)));(case side2 => exact HC0.out);(case side3 => repeat (exact (Kd.C_below HR1.out HB.out)));(case side4 => exact HC1.out);(case side5 => repeat (exact (Kd.R_reads' HO144.out).2.2));(case side6 => exact (Kd.R_reads' HO144.out).2.1);rintro e w' ⟨rfl,⟨nd,rfl⟩⟩;refine ⟨_,rfl, ?_⟩) | ((with_reducible refine gate_callee (f:=33) rfl ?_);refine goesL_ (some 47) rfl rfl Try.func33 (by kernel_rfl) rfl #[.slice A0 l0.length c0, .slice A1 l1.length c1, .slice Ao22 y142.length co22, .int .i64 (wrap64 (a3 + 1))] rfl (by (try simp only [List.map_toArray,List.map_cons,List.map_nil]);rfl) ?_;(with_reducible refine (ih k1 (by have:=HK1.out;omega) _ _ l0 _ _ l1 _ _ y142 (wrap64 (a3 + 1)) t146 _ ?side1 ?side2 ?side3 ?side4 ?side5 ?side6 A18.out).mono ?_);(case side1 => repeat (exact (Kd.C_below HR0.out (by repeat ((with_reducible first | exact HB.out | apply pw_below_drewN))))));(case side2 => exact HC0.out);(case side3 => repeat (exact (Kd.C_below HR1.out (by repeat ((with_reducible first | exact HB.out | apply pw_below_drewN))))));(case side4 => exact HC1.out);(case side5 => repeat (exact (Kd.R_reads' HO144.out).2.2));(case side6 => exact (Kd.R_reads' HO144.out).2.1);rintro e w23 ⟨rfl,hb⟩;refine ⟨_,rfl, ?_⟩;have n0_:=am_ (Kd.R_below (by (with_reducible repeat (apply Kd.R_drewN));exact HO144.out) hb);have n1_:=am_ (below_step (by repeat ((with_reducible first | exact HB.out | apply pw_below_drewN))) hb);clear HO144;clear HB;have HO144:=n0_;have HB:=n1_;clear n0_ n1_;(try clear hb)) | ((with_reducible refine gate_callee (f:=68) rfl ?_);refine goesL_ (some 48) rfl rfl Try.func68 (by kernel_rfl) rfl #[.int .i64 x9_1, .int .i64 t146] rfl (by (try simp only [List.map_toArray,List.map_cons,List.map_nil]);rfl) ?_;(with_reducible refine (spec_l1Most.calls x9_1 t146 t147 _ A19.out).mono ?_);rintro e w' ⟨rfl,⟨nd,rfl⟩⟩;refine ⟨_,rfl, ?_⟩))
        go_roundg k1
        case measure => have:=HK1.out;omega
        case rel => exact ⟨(t147),(wrap64 (x10_1 + 1)),(by rfl),(by rfl),H',⟨by have:=HK1.out;omega⟩,⟨by repeat ((with_reducible first | exact HB.out | apply pw_below_drewN))⟩⟩
       ·replace c17:=Bool.eq_false_iff.mpr c17;subst c17
        have H1 : (spec_l19Most.l0 k1 l0 l1 l2 a3 x9_1 (wrap64 (x10_1 + 1))) = some r:=by rw [if_neg (show ¬ (false = true) by decide)] at H;exact H
        clear H;have H:=H1;clear H1;have H':=am_ H;clear H
        go_wp2_with (first | ((with_reducible refine gate_callee (f:=66) rfl ?_);refine goesL_ (some 33) rfl rfl Try.func66 (by kernel_rfl) rfl #[.slice A2 l2.length c2] rfl (by (try simp only [List.map_toArray,List.map_cons,List.map_nil]);rfl) ?_;(with_reducible refine (spec_l1Own.calls _ _ l2 t139 _ ?side1 ?side2 A14.out).mono ?_);(case side1 => repeat (exact (Kd.C_below HR2.out HB.out)));(case side2 => exact HC2.out);rintro e w24 ⟨v140,rfl,ho0,hb⟩;refine ⟨_,rfl, ?_⟩;have n0_:=am_ (Kd.R_lower ho0 (below_size (by exact HB.out)));have n1_:=am_ (below_step (by exact HB.out) hb);clear HB;have HO141:=n0_;have HB:=n1_;clear n0_ n1_;(try clear hb);(try clear ho0)) | ((with_reducible refine gate_builtin (b := .append) (xs:=#[.tmp 33, .tmp 35]) rfl ?_);at_builtin;refine Kd.R_append (Kd.int .i64) (w0:=w) w.heap.size rfl (.tmp 33) (.tmp 35) 39 3 (.int .i64 0) 8 rfl Try.underlying39 info3 rfl (by decide) (by omega) v140 t139 x10_1 [.int .i64 x10_1] (fun _ => True) (fun _ => False) rfl rfl ?aP (fun _ hk => hk.elim) ?aF ?aO ?aB ?aS ?aL ?_;(case aP => exact rfl);(case aB => exact (by exact HB.out));(case aF => exact (fun _ _ => trivial));(case aO => exact (by exact HO141.out));(case aS => exact (below_size (by exact HB.out)));(case aL => have:=LMc15.out;omega);intro v143 w25 ho hb hg hat;rw [← Ny142.out] at ho;have n0_:=am_ hb;have n1_:=am_ (ho);clear HB;clear HO141;have HB:=n0_;have HO144:=n1_;clear n0_ n1_;clear ho hb hg hat;obtain ⟨Ao26,co26,eo26⟩ := Kd.R_slice HO144.out;subst eo26) | ((with_reducible refine gate_callee (f:=67) rfl ?_);refine goesL_ (some 40) rfl rfl Try.func67 (by kernel_rfl) rfl #[.slice A0 l0.length c0, .slice A1 l1.length c1, .slice Ao26 y142.length co26] rfl (by (try simp only [List.map_toArray,List.map_cons,List.map_nil]);rfl) ?_;(with_reducible refine (spec_l19Fits.calls k1 _ _ l0 _ _ l1 _ _ y142 false _ ?side1 ?side2 ?side3 ?side4 ?side5 ?side6 A16.out).mono ?_);(case side1 => repeat (exact (Kd.C_below HR0.out HB.out)));(case side2 => exact HC0.out);(case side3 => repeat (exact (Kd.C_below HR1.out HB.out)));(case side4 => exact HC1.out);(case side5 => repeat (exact (Kd.R_reads' HO144.out).2.2));(case side6 => exact (Kd.R_reads' HO144.out).2.1);rintro e w' ⟨rfl,⟨nd,rfl⟩⟩;refine ⟨_,rfl, ?_⟩))
        go_roundg k1
        case measure => have:=HK1.out;omega
        case rel => exact ⟨(x9_1),(wrap64 (x10_1 + 1)),(by rfl),(by rfl),H',⟨by have:=HK1.out;omega⟩,⟨by repeat ((with_reducible first | exact HB.out | apply pw_below_drewN))⟩⟩
      ·rw [if_neg c15] at H
       exact absurd H (by simp)
     ·rw [if_neg c13] at H;have c13b0 : decide (x10_1 < (l0.length : Int)) = false:=decide_eq_false c13;clear c13;obtain rfl:=Option.some.inj H
      go_wp2
      go_ret
      exact ⟨by rfl,by exact HB.out⟩
  ·rw [if_neg c7] at H
   exact absurd H (by simp)

end Go.Proofs.Ythbibjfnmljpkaa.PFnTrainLoading
