-- Written by a program of this session, over the kit's print (wip/xprint.py)
import Derived.Test.YtciecfaeeogdoaaGreatDoorPFnTariffsx0
import Derived.Test.YtciecfaeeogdoaaGreatDoorPFnTariffsx13
namespace Go.Proofs.YtciecfaeeogdoaaGreatDoor.PFnTariffs
open Go.RowKit Go.Proofs.YtciecfaeeogdoaaGreatDoorW.PrintWords Go.Proofs.YtciecfaeeogdoaaGreatDoorW.PrintLast Go.Proofs.YtciecfaeeogdoaaGreatDoorW.PrintMore
attribute [local go_sem] max2_int min2_int max_two min_two max_three min_three max_four min_four   -- for this text's walks alone
set_option linter.unusedVariables false
set_option linter.unusedSimpArgs false

/-! ### spec_l22Rate: function 56 -/
def spec_l22Rate.f (k : Nat) (a0_0 : Int) (l0_1 : List (S45)) (a0_2 : Int) (a1 : Int) : Option (Int):=(spec_l22Step.f k a0_0 l0_1 a0_2 a1).bind fun t470 => (if t470 < 0 then (some 0) else (if 0 ≤ t470 then (if t470 < (l0_1.length : Int) then (some ((rd_T45 l0_1 t470).f1)) else (none)) else (none)))
theorem spec_l22Rate.mono : ∀ a0 a1 a2 a3 k,LeO (spec_l22Rate.f k a0 a1 a2 a3) (spec_l22Rate.f (k + 1) a0 a1 a2 a3):=by
 intro a0 a1 a2 a3 k
 unfold spec_l22Rate.f
 repeat' first
   | (with_reducible exact spec_l22Step.mono _ _ _ _ _)
   | (with_reducible exact LeO.refl _)
   | (with_reducible exact LeO.none _)
   | (with_reducible refine LeO.ite ?_ ?_)
   | (with_reducible refine LeO.bind ?_ (fun _ => ?_))
   | exact spec_l22Step.mono _ _ _ _ _
   | exact LeO.none _
   | refine LeO.ite ?_ ?_
   | refine LeO.bind ?_ (fun _ => ?_)
set_option maxHeartbeats 8000000 in
set_option maxRecDepth 100000 in
theorem spec_l22Rate.calls (k : Nat) (a0_0 : Int) (A0_1 : Option Addr) (c0_1 : Nat) (l0_1 : List (S45)) (a0_2 : Int) (a1 : Int) (r : Int) (w : World) (hr0_1 : Kd.C k45 w A0_1 l0_1.length l0_1) (hc0_1 : l0_1.length ≤ c0_1) (h : spec_l22Rate.f k a0_0 l0_1 a0_2 a1 = some r) :
  Calls Tryz.prog 56 #[.agg #[.int .i64 a0_0, .slice A0_1 l0_1.length c0_1, .int .i64 a0_2], .int .i64 a1] w fun e w' => e = .returned (.int .i64 r) ∧ Below w.heap.size w w':=by
 have hu26:=Tryz.underlying26;have HR0_1:=am_ hr0_1;have HC0_1:=am_ hc0_1;clear hr0_1 hc0_1;have HB:=am_ (Below.refl w.heap.size w);have H : ((spec_l22Step.f k a0_0 l0_1 a0_2 a1).bind fun t470 => (if t470 < 0 then (some 0) else (if 0 ≤ t470 then (if t470 < (l0_1.length : Int) then (some ((rd_T45 l0_1 t470).f1)) else (none)) else (none)))) = some r:=h;clear h;replace H:=Option.bind_eq_some_iff.mp H;obtain ⟨t470,A30,H⟩ := H;replace H : (if t470 < 0 then (some 0) else (if 0 ≤ t470 then (if t470 < (l0_1.length : Int) then (some ((rd_T45 l0_1 t470).f1)) else (none)) else (none))) = some r:=H;have A3:=am_ A30;clear A30
 by_cases c4 : t470 < 0
 ·rw [if_pos c4] at H;have c4b0 : decide (t470 < 0) = true:=decide_eq_true c4;clear c4;obtain rfl:=Option.some.inj H
  go_enter Tryz.func56,Tryz.ntmps56
  go_wp2_with (first | ((with_reducible refine gate_dst (N:=2) rfl ?_);refine box_event ?hg (N:=2) ?hd (cs:=#[.int .i64 a0_0, .slice A0_1 l0_1.length c0_1, .int .i64 a0_2]) (t:=26) ?hr ?_;(case hd => rfl);(case hg => rfl);(case hr => (go_simp;done));intro gb469 hg w5 hbox hb;have n0_:=am_ (below_step (by exact HB.out) hb);have n1_:=am_ hbox;have n2_:=am_ (ge_ hg (by exact HB.out));have n3_:=am_ (ge_ hg (by exact HB.out));clear HB;have HB:=n0_;have BK469:=n1_;have GW469:=n2_;have GE469:=n3_;clear n0_ n1_ n2_ n3_;clear hb hbox hg;have hcz6_0:=c3_0 BK469.out;have hcz6_1:=c3_1 BK469.out;have hcz6_2:=c3_2 BK469.out;have hfz6_0:=blk_frozen BK469.out 0;have hfz6_1:=blk_frozen BK469.out 1;have hfz6_2:=blk_frozen BK469.out 2) | ((with_reducible refine gate_callee (f:=72) rfl ?_);refine goesL_ (some 8) rfl rfl Tryz.func72 (by kernel_rfl) rfl #[.agg #[.int .i64 a0_0, .slice A0_1 l0_1.length c0_1, .int .i64 a0_2], .int .i64 a1] rfl (by (try simp only [List.map_toArray,List.map_cons,List.map_nil]);rfl) ?_;(with_reducible refine (spec_l22Step.calls k a0_0 _ _ l0_1 a0_2 a1 t470 _ ?side1 ?side2 A3.out).mono ?_);(case side1 => repeat (exact (Kd.C_below HR0_1.out HB.out)));(case side2 => exact HC0_1.out);rintro e w7 ⟨rfl,hb⟩;refine ⟨_,rfl, ?_⟩;have n0_:=am_ (blk_below (by exact BK469.out) hb);have n1_:=am_ (below_step (by exact HB.out) hb);clear BK469;clear HB;have BK469:=n0_;have HB:=n1_;clear n0_ n1_;(try clear hb)))
  go_ret
  exact ⟨by rfl,by exact HB.out⟩
 ·rw [if_neg c4] at H;have c4b0 : decide (t470 < 0) = false:=decide_eq_false c4;clear c4
  by_cases c8 : 0 ≤ t470
  ·rw [if_pos c8] at H;have c8b0 : decide (0 ≤ t470) = true:=decide_eq_true c8;clear c8
   by_cases c9 : t470 < (l0_1.length : Int)
   ·rw [if_pos c9] at H;have c9b0 : decide (t470 < (l0_1.length : Int)) = true:=decide_eq_true c9;clear c9;obtain rfl:=Option.some.inj H
    go_enter Tryz.func56,Tryz.ntmps56
    go_wp2_with (first | ((with_reducible refine gate_dst (N:=2) rfl ?_);refine box_event ?hg (N:=2) ?hd (cs:=#[.int .i64 a0_0, .slice A0_1 l0_1.length c0_1, .int .i64 a0_2]) (t:=26) ?hr ?_;(case hd => rfl);(case hg => rfl);(case hr => (go_simp;done));intro gb469 hg w10 hbox hb;have n0_:=am_ (below_step (by exact HB.out) hb);have n1_:=am_ hbox;have n2_:=am_ (ge_ hg (by exact HB.out));have n3_:=am_ (ge_ hg (by exact HB.out));clear HB;have HB:=n0_;have BK469:=n1_;have GW469:=n2_;have GE469:=n3_;clear n0_ n1_ n2_ n3_;clear hb hbox hg;have hcz11_0:=c3_0 BK469.out;have hcz11_1:=c3_1 BK469.out;have hcz11_2:=c3_2 BK469.out;have hfz11_0:=blk_frozen BK469.out 0;have hfz11_1:=blk_frozen BK469.out 1;have hfz11_2:=blk_frozen BK469.out 2) | ((with_reducible refine gate_callee (f:=72) rfl ?_);refine goesL_ (some 8) rfl rfl Tryz.func72 (by kernel_rfl) rfl #[.agg #[.int .i64 a0_0, .slice A0_1 l0_1.length c0_1, .int .i64 a0_2], .int .i64 a1] rfl (by (try simp only [List.map_toArray,List.map_cons,List.map_nil]);rfl) ?_;(with_reducible refine (spec_l22Step.calls k a0_0 _ _ l0_1 a0_2 a1 t470 _ ?side1 ?side2 A3.out).mono ?_);(case side1 => repeat (exact (Kd.C_below HR0_1.out HB.out)));(case side2 => exact HC0_1.out);rintro e w12 ⟨rfl,hb⟩;refine ⟨_,rfl, ?_⟩;have n0_:=am_ (blk_below (by exact BK469.out) hb);have n1_:=am_ (below_step (by exact HB.out) hb);clear BK469;clear HB;have BK469:=n0_;have HB:=n1_;clear n0_ n1_;(try clear hb);have hcz13_0:=c3_0 BK469.out;have hcz13_1:=c3_1 BK469.out;have hcz13_2:=c3_2 BK469.out;have hfz13_0:=blk_frozen BK469.out 0;have hfz13_1:=blk_frozen BK469.out 1;have hfz13_2:=blk_frozen BK469.out 2;have p471 : 0 ≤ (t470 : Int):=of_decide_eq_true (by (with_reducible assumption));have q471 : t470 < (l0_1.length : Int):=of_decide_eq_true (by (with_reducible assumption));obtain ⟨ad471,e471,hx471_0,hx471_1⟩ := at_T45 HR0_1.out t470 p471 q471;cases e471;replace hx471_0:=(HB.out.cell (World.block_lt_of_cell? w _ hx471_0)).trans hx471_0;replace hx471_1:=(HB.out.cell (World.block_lt_of_cell? w _ hx471_1)).trans hx471_1;replace p471:=eq_true p471;replace q471:=eq_true q471))
    go_ret
    exact ⟨by rfl,by exact HB.out⟩
   ·rw [if_neg c9] at H
    exact absurd H (by simp)
  ·rw [if_neg c8] at H
   exact absurd H (by simp)

/-! ### spec_l22Pay: function 39 -/
def spec_l22Pay.l0 : Nat → Int → Int → Int → Int → Int → List (S45) → Int → Option (Int)
 | 0,_,_,_,_,_,_,_ => none
 | k + 1,x1,x2,x7,x8,x473000,x473001,x473002 => if x8 ≤ x2 then ((spec_l22Rate.f k x473000 x473001 x473002 x8).bind fun t473 => (spec_l22Pay.l0 k x1 x2 (wrap64 (x7 + t473)) (wrap64 (x8 + 1)) x473000 x473001 x473002)) else (if x1 = 2 then (some (wrap64 (Int.tdiv (wrap64 ((wrap64 (x7 * x473002)) + 99)) 100))) else (some x7))
def spec_l22Pay.f (k : Nat) (a0_0 : Int) (l0_1 : List (S45)) (a0_2 : Int) (a1 : Int) (a2 : Int) : Option (Int):=spec_l22Pay.l0 k a1 a2 0 1 a0_0 l0_1 a0_2
theorem spec_l22Pay.mono_l : ∀ k,(∀ y0 y1 y2 y3 y4 y5 y6,LeO (spec_l22Pay.l0 k y0 y1 y2 y3 y4 y5 y6) (spec_l22Pay.l0 (k + 1) y0 y1 y2 y3 y4 y5 y6))
 | 0 => fun _ _ _ _ _ _ _ r h => by simp [spec_l22Pay.l0] at h
 | k + 1 => by
  have ih0:=spec_l22Pay.mono_l k
  ·intro y0 y1 y2 y3 y4 y5 y6
   unfold spec_l22Pay.l0
   repeat' first
   | (with_reducible exact ih0 _ _ _ _ _ _ _)
   | (with_reducible exact spec_l22Rate.mono _ _ _ _ _)
   | (with_reducible exact LeO.refl _)
   | (with_reducible exact LeO.none _)
   | (with_reducible refine LeO.ite ?_ ?_)
   | (with_reducible refine LeO.bind ?_ (fun _ => ?_))
   | exact ih0 _ _ _ _ _ _ _
   | exact spec_l22Rate.mono _ _ _ _ _
   | exact LeO.none _
   | refine LeO.ite ?_ ?_
   | refine LeO.bind ?_ (fun _ => ?_)
theorem spec_l22Pay.mono : ∀ a0 a1 a2 a3 a4 k,LeO (spec_l22Pay.f k a0 a1 a2 a3 a4) (spec_l22Pay.f (k + 1) a0 a1 a2 a3 a4):=by
 intro a0 a1 a2 a3 a4 k;have ih0:=spec_l22Pay.mono_l k
 unfold spec_l22Pay.f
 repeat' first
   | (with_reducible exact ih0 _ _ _ _ _ _ _)
   | (with_reducible exact spec_l22Rate.mono _ _ _ _ _)
   | (with_reducible exact LeO.refl _)
   | (with_reducible exact LeO.none _)
   | (with_reducible refine LeO.ite ?_ ?_)
   | (with_reducible refine LeO.bind ?_ (fun _ => ?_))
   | exact ih0 _ _ _ _ _ _ _
   | exact spec_l22Rate.mono _ _ _ _ _
   | exact LeO.none _
   | refine LeO.ite ?_ ?_
   | refine LeO.bind ?_ (fun _ => ?_)
set_option maxHeartbeats 8000000 in
set_option maxRecDepth 100000 in
theorem spec_l22Pay.calls (k : Nat) (a0_0 : Int) (A0_1 : Option Addr) (c0_1 : Nat) (l0_1 : List (S45)) (a0_2 : Int) (a1 : Int) (a2 : Int) (r : Int) (w : World) (hr0_1 : Kd.C k45 w A0_1 l0_1.length l0_1) (hc0_1 : l0_1.length ≤ c0_1) (h : spec_l22Pay.f k a0_0 l0_1 a0_2 a1 a2 = some r) :
  Calls Tryz.prog 39 #[.agg #[.int .i64 a0_0, .slice A0_1 l0_1.length c0_1, .int .i64 a0_2], .int .i64 a1, .int .i64 a2] w fun e w' => e = .returned (.int .i64 r) ∧ Below w.heap.size w w':=by
 have hu26:=Tryz.underlying26;have HR0_1:=am_ hr0_1;have HC0_1:=am_ hc0_1;clear hr0_1 hc0_1;have HB:=am_ (Below.refl w.heap.size w);have H : (spec_l22Pay.l0 k a1 a2 0 1 a0_0 l0_1 a0_2) = some r:=h;clear h;have H':=am_ H;clear H
 go_enter Tryz.func39,Tryz.ntmps39
 go_wp2_with (((with_reducible refine gate_dst (N:=3) rfl ?_);refine box_event ?hg (N:=3) ?hd (cs:=#[.int .i64 a0_0, .slice A0_1 l0_1.length c0_1, .int .i64 a0_2]) (t:=26) ?hr ?_;(case hd => rfl);(case hg => rfl);(case hr => (go_simp;done));intro gb472 hg w4 hbox hb;have n0_:=am_ (below_step (by exact HB.out) hb);have n1_:=am_ hbox;have n2_:=am_ (ge_ hg (by exact HB.out));have n3_:=am_ (ge_ hg (by exact HB.out));clear HB;have HB:=n0_;have BK472:=n1_;have GW472:=n2_;have GE472:=n3_;clear n0_ n1_ n2_ n3_;clear hb hbox hg))
 go_loopg [7,8] k (fun kq v7 v8 w' => ∃ (x7_1 : Int) (x8_1 : Int),v7 = .int .i64 x7_1 ∧ v8 = .int .i64 x8_1 ∧ Aside0 (spec_l22Pay.l0 kq a1 a2 x7_1 x8_1 a0_0 l0_1 a0_2 = some r) ∧ Aside0 (kq ≤ k) ∧ Aside0 (w'.heap[gb472]? = some (.cells #[.int .i64 a0_0,(.slice A0_1 l0_1.length c0_1), .int .i64 a0_2] 26 (0,0))) ∧ Aside0 (Below w.heap.size w w'))
 case atStart => exact ⟨(0),(1),(by rfl),(by rfl),H',⟨Nat.le_refl _⟩,⟨by exact BK472.out⟩,⟨by exact HB.out⟩⟩
 case round =>
  clear H';(try clear p2);(try clear c3);obtain ⟨x7_1,x8_1,rfl,rfl,HA,HK1,BK472,HB⟩ := hrel
  cases gk with
  | zero => exact absurd HA.out (by simp [spec_l22Pay.l0])
  | succ k1 =>
   have H:=HA.out;clear HA;simp only [spec_l22Pay.l0] at H
   by_cases c5 : x8_1 ≤ a2
   ·rw [if_pos c5] at H;have c5b0 : decide (x8_1 ≤ a2) = true:=decide_eq_true c5;clear c5;replace H:=Option.bind_eq_some_iff.mp H;obtain ⟨t473,A60,H⟩ := H;replace H : (spec_l22Pay.l0 k1 a1 a2 (wrap64 (x7_1 + t473)) (wrap64 (x8_1 + 1)) a0_0 l0_1 a0_2) = some r:=H;have A6:=am_ A60;clear A60;have H':=am_ H;clear H;have hcz7_0:=c3_0 BK472.out;have hcz7_1:=c3_1 BK472.out;have hcz7_2:=c3_2 BK472.out;have hfz7_0:=blk_frozen BK472.out 0;have hfz7_1:=blk_frozen BK472.out 1;have hfz7_2:=blk_frozen BK472.out 2
    go_wp2_with (((with_reducible refine gate_callee (f:=56) rfl ?_);refine goesL_ (some 17) rfl rfl Tryz.func56 (by kernel_rfl) rfl #[.agg #[.int .i64 a0_0, .slice A0_1 l0_1.length c0_1, .int .i64 a0_2], .int .i64 x8_1] rfl (by (try simp only [List.map_toArray,List.map_cons,List.map_nil]);rfl) ?_;(with_reducible refine (spec_l22Rate.calls k1 a0_0 _ _ l0_1 a0_2 x8_1 t473 _ ?side1 ?side2 A6.out).mono ?_);(case side1 => repeat (exact (Kd.C_below HR0_1.out HB.out)));(case side2 => exact HC0_1.out);rintro e w8 ⟨rfl,hb⟩;refine ⟨_,rfl, ?_⟩;have n0_:=am_ (blk_below (by exact BK472.out) hb);have n1_:=am_ (below_step (by exact HB.out) hb);clear BK472;clear HB;have BK472:=n0_;have HB:=n1_;clear n0_ n1_;(try clear hb)))
    go_roundg k1
    case measure => have:=HK1.out;omega
    case rel => exact ⟨(wrap64 (x7_1 + t473)),(wrap64 (x8_1 + 1)),(by rfl),(by rfl),H',⟨by have:=HK1.out;omega⟩,⟨by exact BK472.out⟩,⟨by exact HB.out⟩⟩
   ·rw [if_neg c5] at H;have c5b0 : decide (x8_1 ≤ a2) = false:=decide_eq_false c5;clear c5
    by_cases c9 : a1 = 2
    ·rw [if_pos c9] at H;have c9b0 : (a1 == 2) = true:=beq_iff_eq.mpr c9;have c9b1 : (a1 != 2) = false:=bne_eq_false_iff_eq.mpr c9;clear c9;obtain rfl:=Option.some.inj H;have hcz10_0:=c3_0 BK472.out;have hcz10_1:=c3_1 BK472.out;have hcz10_2:=c3_2 BK472.out;have hfz10_0:=blk_frozen BK472.out 0;have hfz10_1:=blk_frozen BK472.out 1;have hfz10_2:=blk_frozen BK472.out 2
     go_wp2
     go_ret
     exact ⟨by rfl,by exact HB.out⟩
    ·rw [if_neg c9] at H;have c9b0 : (a1 == 2) = false:=beq_eq_false_iff_ne.mpr c9;have c9b1 : (a1 != 2) = true:=bne_iff_ne.mpr c9;obtain rfl:=Option.some.inj H
     go_wp2
     go_ret
     exact ⟨by rfl,by exact HB.out⟩

/-! ### spec_CheaperCharge: function 14 -/
def spec_CheaperCharge.j0 : Nat → Int → Int → Bool → Int → List (S45) → Int → Int → List (S45) → Int → Option (Int × Bool)
 | 0,_,_,_,_,_,_,_,_,_ => none
 | k + 1,x2,x3,x23,x475000,x475001,x475002,x476000,x476001,x476002 => if x23 = true then (some (0,false)) else ((spec_l22Pay.f k x475000 x475001 x475002 x2 x3).bind fun t478 => ((spec_l22Pay.f k x476000 x476001 x476002 x2 x3).bind fun t479 => (if t478 < t479 then (some (1,true)) else (if t478 > t479 then (some (2,true)) else (some (0,true))))))
def spec_CheaperCharge.f (k : Nat) (a0_0 : Int) (l0_1 : List (S45)) (a0_2 : Int) (a1_0 : Int) (l1_1 : List (S45)) (a1_2 : Int) (a2 : Int) (a3 : Int) : Option (Int × Bool):=(spec_l22Asked.f k a0_0 l0_1 a0_2 a2 a3).bind fun t476 => (if t476 = true then ((spec_l22Asked.f k a1_0 l1_1 a1_2 a2 a3).bind fun t477 => (spec_CheaperCharge.j0 k a2 a3 (!t477) a0_0 l0_1 a0_2 a1_0 l1_1 a1_2)) else (spec_CheaperCharge.j0 k a2 a3 true a0_0 l0_1 a0_2 a1_0 l1_1 a1_2))
theorem spec_CheaperCharge.mono_l : ∀ k,(∀ y0 y1 y2 y3 y4 y5 y6 y7 y8,LeO (spec_CheaperCharge.j0 k y0 y1 y2 y3 y4 y5 y6 y7 y8) (spec_CheaperCharge.j0 (k + 1) y0 y1 y2 y3 y4 y5 y6 y7 y8))
 | 0 => fun _ _ _ _ _ _ _ _ _ r h => by simp [spec_CheaperCharge.j0] at h
 | k + 1 => by
  have ih0:=spec_CheaperCharge.mono_l k
  ·intro y0 y1 y2 y3 y4 y5 y6 y7 y8
   unfold spec_CheaperCharge.j0
   repeat' first
   | (with_reducible exact ih0 _ _ _ _ _ _ _ _ _)
   | (with_reducible exact spec_l22Asked.mono _ _ _ _ _ _)
   | (with_reducible exact spec_l22Pay.mono _ _ _ _ _ _)
   | (with_reducible exact LeO.refl _)
   | (with_reducible exact LeO.none _)
   | (with_reducible refine LeO.ite ?_ ?_)
   | (with_reducible refine LeO.bind ?_ (fun _ => ?_))
   | exact ih0 _ _ _ _ _ _ _ _ _
   | exact spec_l22Asked.mono _ _ _ _ _ _
   | exact spec_l22Pay.mono _ _ _ _ _ _
   | exact LeO.none _
   | refine LeO.ite ?_ ?_
   | refine LeO.bind ?_ (fun _ => ?_)
theorem spec_CheaperCharge.mono : ∀ a0 a1 a2 a3 a4 a5 a6 a7 k,LeO (spec_CheaperCharge.f k a0 a1 a2 a3 a4 a5 a6 a7) (spec_CheaperCharge.f (k + 1) a0 a1 a2 a3 a4 a5 a6 a7):=by
 intro a0 a1 a2 a3 a4 a5 a6 a7 k;have ih0:=spec_CheaperCharge.mono_l k
 unfold spec_CheaperCharge.f
 repeat' first
   | (with_reducible exact ih0 _ _ _ _ _ _ _ _ _)
   | (with_reducible exact spec_l22Asked.mono _ _ _ _ _ _)
   | (with_reducible exact spec_l22Pay.mono _ _ _ _ _ _)
   | (with_reducible exact LeO.refl _)
   | (with_reducible exact LeO.none _)
   | (with_reducible refine LeO.ite ?_ ?_)
   | (with_reducible refine LeO.bind ?_ (fun _ => ?_))
   | exact ih0 _ _ _ _ _ _ _ _ _
   | exact spec_l22Asked.mono _ _ _ _ _ _
   | exact spec_l22Pay.mono _ _ _ _ _ _
   | exact LeO.none _
   | refine LeO.ite ?_ ?_
   | refine LeO.bind ?_ (fun _ => ?_)
def spec_CheaperCharge.T3 : Bool × List (List Nat × List Nat):=(true,[([],[]),([],[]),([],[]),([0,1,2],[0,1,2]),([],[]),([],[]),([],[]),([4,5,6,3],[4,5,6]),([3,7,0,1,2,3],[3]),([7,8,0,1,2,3,4,5,6,7,8],[7])])
def spec_CheaperCharge.B3 : List Nat := [0,0,0,7,0,0,0,127,255,511]
theorem spec_CheaperCharge.tab3 : rtab .any (opsOf Tryz.f14 3) = spec_CheaperCharge.T3:=by kernel_rfl
theorem spec_CheaperCharge.bits3 : waitsOk spec_CheaperCharge.T3.2 spec_CheaperCharge.B3 = true:=by kernel_rfl
set_option maxHeartbeats 8000000 in
set_option maxRecDepth 100000 in
theorem spec_CheaperCharge.calls (k : Nat) (a0_0 : Int) (A0_1 : Option Addr) (c0_1 : Nat) (l0_1 : List (S45)) (a0_2 : Int) (a1_0 : Int) (A1_1 : Option Addr) (c1_1 : Nat) (l1_1 : List (S45)) (a1_2 : Int) (a2 : Int) (a3 : Int) (r1 : Int) (r2 : Bool) (w : World) (hr0_1 : Kd.C k45 w A0_1 l0_1.length l0_1) (hc0_1 : l0_1.length ≤ c0_1) (hr1_1 : Kd.C k45 w A1_1 l1_1.length l1_1) (hc1_1 : l1_1.length ≤ c1_1) (h : spec_CheaperCharge.f k a0_0 l0_1 a0_2 a1_0 l1_1 a1_2 a2 a3 = some (r1,r2)) :
  Calls Tryz.prog 14 #[.agg #[.int .i64 a0_0, .slice A0_1 l0_1.length c0_1, .int .i64 a0_2], .agg #[.int .i64 a1_0, .slice A1_1 l1_1.length c1_1, .int .i64 a1_2], .int .i64 a2, .int .i64 a3] w fun e w' => e = .returned (.tuple #[.int .i64 r1, .bool r2]) ∧ Below w.heap.size w w':=by
 have hu26:=Tryz.underlying26;have HR0_1:=am_ hr0_1;have HC0_1:=am_ hc0_1;clear hr0_1 hc0_1;have HR1_1:=am_ hr1_1;have HC1_1:=am_ hc1_1;clear hr1_1 hc1_1;have HB:=am_ (Below.refl w.heap.size w);have H : ((spec_l22Asked.f k a0_0 l0_1 a0_2 a2 a3).bind fun t476 => (if t476 = true then ((spec_l22Asked.f k a1_0 l1_1 a1_2 a2 a3).bind fun t477 => (spec_CheaperCharge.j0 k a2 a3 (!t477) a0_0 l0_1 a0_2 a1_0 l1_1 a1_2)) else (spec_CheaperCharge.j0 k a2 a3 true a0_0 l0_1 a0_2 a1_0 l1_1 a1_2))) = some (r1,r2):=h;clear h;have HC5:=am_ H;clear H
 go_enter Tryz.func14,Tryz.ntmps14
 go_upto_region 1 with (first | ((with_reducible refine gate_dst (N:=4) rfl ?_);refine box_event ?hg (N:=4) ?hd (cs:=#[.int .i64 a0_0, .slice A0_1 l0_1.length c0_1, .int .i64 a0_2]) (t:=26) ?hr ?_;(case hd => rfl);(case hg => rfl);(case hr => (go_simp;done));intro gb474 hg w6 hbox hb;have n0_:=am_ (below_step (by exact HB.out) hb);have n1_:=am_ hbox;have n2_:=am_ (ge_ hg (by exact HB.out));have n3_:=am_ (ge_ hg (by exact HB.out));clear HB;have HB:=n0_;have BK474:=n1_;have GW474:=n2_;have GE474:=n3_;clear n0_ n1_ n2_ n3_;clear hb hbox hg) | ((with_reducible refine gate_dst (N:=5) rfl ?_);refine box_event ?hg (N:=5) ?hd (cs:=#[.int .i64 a1_0, .slice A1_1 l1_1.length c1_1, .int .i64 a1_2]) (t:=26) ?hr ?_;(case hd => rfl);(case hg => rfl);(case hr => (go_simp;done));intro gb475 hg w7 hbox hb;have n0_:=am_ (blk_below (by exact BK474.out) hb);have n1_:=am_ (below_step (by exact HB.out) hb);have n2_:=am_ hbox;have n3_:=am_ (ge_ hg (by exact HB.out));have n4_:=am_ (ge_ hg (by exact HB.out));have n5_:=am_ (nl_ hg (by exact BK474.out));have n6_:=am_ (ng_ hg (by exact BK474.out));clear BK474;clear HB;have BK474:=n0_;have HB:=n1_;have BK475:=n2_;have GW475:=n3_;have GE475:=n4_;have NB474_475:=n5_;have NB475_474:=n6_;clear n0_ n1_ n2_ n3_ n4_ n5_ n6_;clear hb hbox hg))
 (skip)
 go_cut [23] (fun v23 wc => ∃ (kq : Nat) (x23_4 : Bool),v23 = .bool x23_4 ∧ Aside0 (spec_CheaperCharge.j0 kq a2 a3 x23_4 a0_0 l0_1 a0_2 a1_0 l1_1 a1_2 = some (r1,r2)) ∧ Aside0 (kq ≤ k) ∧ Aside0 (wc.heap[gb474]? = some (.cells #[.int .i64 a0_0,(.slice A0_1 l0_1.length c0_1), .int .i64 a0_2] 26 (0,0))) ∧ Aside0 (wc.heap[gb475]? = some (.cells #[.int .i64 a1_0,(.slice A1_1 l1_1.length c1_1), .int .i64 a1_2] 26 (0,0))) ∧ Aside0 (Below w.heap.size w wc))
 case first =>
  have H:=HC5.out;clear HC5;replace H:=Option.bind_eq_some_iff.mp H;obtain ⟨t476,A80,H⟩ := H;replace H : (if t476 = true then ((spec_l22Asked.f k a1_0 l1_1 a1_2 a2 a3).bind fun t477 => (spec_CheaperCharge.j0 k a2 a3 (!t477) a0_0 l0_1 a0_2 a1_0 l1_1 a1_2)) else (spec_CheaperCharge.j0 k a2 a3 true a0_0 l0_1 a0_2 a1_0 l1_1 a1_2)) = some (r1,r2):=H;have A8:=am_ A80;clear A80
  by_cases c9 : t476 = true
  ·subst c9
   have H1 : ((spec_l22Asked.f k a1_0 l1_1 a1_2 a2 a3).bind fun t477 => (spec_CheaperCharge.j0 k a2 a3 (!t477) a0_0 l0_1 a0_2 a1_0 l1_1 a1_2)) = some (r1,r2):=by rw [if_pos rfl] at H;exact H
   clear H;have H:=H1;clear H1;replace H:=Option.bind_eq_some_iff.mp H;obtain ⟨t477,A100,H⟩ := H;replace H : (spec_CheaperCharge.j0 k a2 a3 (!t477) a0_0 l0_1 a0_2 a1_0 l1_1 a1_2) = some (r1,r2):=H;have A10:=am_ A100;clear A100;have H':=am_ H;clear H;have hnb11:=NB474_475.out;have hnc11:=NB475_474.out;have hcz12_0:=c3_0 BK474.out;have hcz12_1:=c3_1 BK474.out;have hcz12_2:=c3_2 BK474.out;have hfz12_0:=blk_frozen BK474.out 0;have hfz12_1:=blk_frozen BK474.out 1;have hfz12_2:=blk_frozen BK474.out 2
   go_wp2_with (first | ((with_reducible refine gate_callee (f:=38) rfl ?_);refine goesL_ (some 15) rfl rfl Tryz.func38 (by kernel_rfl) rfl #[.agg #[.int .i64 a0_0, .slice A0_1 l0_1.length c0_1, .int .i64 a0_2], .int .i64 a2, .int .i64 a3] rfl (by (try simp only [List.map_toArray,List.map_cons,List.map_nil]);rfl) ?_;(with_reducible refine (spec_l22Asked.calls k a0_0 _ _ l0_1 a0_2 a2 a3 true _ ?side1 ?side2 A8.out).mono ?_);(case side1 => repeat (exact (Kd.C_below HR0_1.out HB.out)));(case side2 => exact HC0_1.out);rintro e w13 ⟨rfl,hb⟩;refine ⟨_,rfl, ?_⟩;have n0_:=am_ (blk_below (by exact BK474.out) hb);have n1_:=am_ (blk_below (by exact BK475.out) hb);have n2_:=am_ (below_step (by exact HB.out) hb);clear BK474;clear BK475;clear HB;have BK474:=n0_;have BK475:=n1_;have HB:=n2_;clear n0_ n1_ n2_;(try clear hb);have hcz14_0:=c3_0 BK475.out;have hcz14_1:=c3_1 BK475.out;have hcz14_2:=c3_2 BK475.out;have hfz14_0:=blk_frozen BK475.out 0;have hfz14_1:=blk_frozen BK475.out 1;have hfz14_2:=blk_frozen BK475.out 2) | (go_at_call 38;(with_reducible refine (spec_l22Asked.calls k a1_0 _ _ l1_1 a1_2 a2 a3 t477 _ ?side1 ?side2 A10.out).mono ?_);(case side1 => repeat (exact (Kd.C_below HR1_1.out HB.out)));(case side2 => exact HC1_1.out);rintro e w15 ⟨rfl,hb⟩;have n0_:=am_ (blk_below (by exact BK474.out) hb);have n1_:=am_ (blk_below (by exact BK475.out) hb);have n2_:=am_ (below_step (by exact HB.out) hb);clear BK474;clear BK475;clear HB;have BK474:=n0_;have BK475:=n1_;have HB:=n2_;clear n0_ n1_ n2_;(try clear hb)))
   go_meet
   case rel => exact ⟨_,(!t477),(by rfl),H',⟨by omega⟩,⟨by exact BK474.out⟩,⟨by exact BK475.out⟩,⟨by exact HB.out⟩⟩
  ·replace c9:=Bool.eq_false_iff.mpr c9;subst c9
   have H1 : (spec_CheaperCharge.j0 k a2 a3 true a0_0 l0_1 a0_2 a1_0 l1_1 a1_2) = some (r1,r2):=by rw [if_neg (show ¬ (false = true) by decide)] at H;exact H
   clear H;have H:=H1;clear H1;have H':=am_ H;clear H;have hnb16:=NB474_475.out;have hnc16:=NB475_474.out;have hcz17_0:=c3_0 BK474.out;have hcz17_1:=c3_1 BK474.out;have hcz17_2:=c3_2 BK474.out;have hfz17_0:=blk_frozen BK474.out 0;have hfz17_1:=blk_frozen BK474.out 1;have hfz17_2:=blk_frozen BK474.out 2
   go_wp2_with (((with_reducible refine gate_callee (f:=38) rfl ?_);refine goesL_ (some 15) rfl rfl Tryz.func38 (by kernel_rfl) rfl #[.agg #[.int .i64 a0_0, .slice A0_1 l0_1.length c0_1, .int .i64 a0_2], .int .i64 a2, .int .i64 a3] rfl (by (try simp only [List.map_toArray,List.map_cons,List.map_nil]);rfl) ?_;(with_reducible refine (spec_l22Asked.calls k a0_0 _ _ l0_1 a0_2 a2 a3 false _ ?side1 ?side2 A8.out).mono ?_);(case side1 => repeat (exact (Kd.C_below HR0_1.out HB.out)));(case side2 => exact HC0_1.out);rintro e w18 ⟨rfl,hb⟩;refine ⟨_,rfl, ?_⟩;have n0_:=am_ (blk_below (by exact BK474.out) hb);have n1_:=am_ (blk_below (by exact BK475.out) hb);have n2_:=am_ (below_step (by exact HB.out) hb);clear BK474;clear BK475;clear HB;have BK474:=n0_;have BK475:=n1_;have HB:=n2_;clear n0_ n1_ n2_;(try clear hb)))
   go_meet
   case rel => exact ⟨_,(true),(by rfl),H',⟨by omega⟩,⟨by exact BK474.out⟩,⟨by exact BK475.out⟩,⟨by exact HB.out⟩⟩
 case rest =>
  clear HC5;(try clear c1);(try clear p2);(try clear c3);(try clear c9);(try clear c11);(try clear c14);(try clear c16);(try clear hcz12_0);(try clear hcz12_1);(try clear hcz12_2);(try clear hcz14_0);(try clear hcz14_1);(try clear hcz14_2);(try clear hcz17_0);(try clear hcz17_1);(try clear hcz17_2);(try clear hfz12_0);(try clear hfz12_1);(try clear hfz12_2);(try clear hfz14_0);(try clear hfz14_1);(try clear hfz14_2);(try clear hfz17_0);(try clear hfz17_1);(try clear hfz17_2);obtain ⟨kq,x23_4,rfl,HA,HJ4,BK474,BK475,HB⟩ := hcut
  cases kq with
  | zero => exact absurd HA.out (by simp [spec_CheaperCharge.j0])
  | succ kj4 =>
   have H:=HA.out;clear HA;simp only [spec_CheaperCharge.j0] at H
   by_cases c19 : x23_4 = true
   ·subst c19
    have H1 : (some (0,false)) = some (r1,r2):=by rw [if_pos rfl] at H;exact H
    clear H;have H:=H1;clear H1;simp only [Option.some.injEq,Prod.mk.injEq] at H;obtain ⟨rfl,rfl⟩ := H
    go_wp2
    go_ret2
    exact ⟨by rfl,by exact HB.out⟩
   ·replace c19:=Bool.eq_false_iff.mpr c19;subst c19
    have H1 : ((spec_l22Pay.f kj4 a0_0 l0_1 a0_2 a2 a3).bind fun t478 => ((spec_l22Pay.f kj4 a1_0 l1_1 a1_2 a2 a3).bind fun t479 => (if t478 < t479 then (some (1,true)) else (if t478 > t479 then (some (2,true)) else (some (0,true)))))) = some (r1,r2):=by rw [if_neg (show ¬ (false = true) by decide)] at H;exact H
    clear H;have H:=H1;clear H1;replace H:=Option.bind_eq_some_iff.mp H;obtain ⟨t478,A200,H⟩ := H;replace H : ((spec_l22Pay.f kj4 a1_0 l1_1 a1_2 a2 a3).bind fun t479 => (if t478 < t479 then (some (1,true)) else (if t478 > t479 then (some (2,true)) else (some (0,true))))) = some (r1,r2):=H;have A20:=am_ A200;clear A200;replace H:=Option.bind_eq_some_iff.mp H;obtain ⟨t479,A210,H⟩ := H;replace H : (if t478 < t479 then (some (1,true)) else (if t478 > t479 then (some (2,true)) else (some (0,true)))) = some (r1,r2):=H;have A21:=am_ A210;clear A210
    by_cases c22 : t478 < t479
    ·rw [if_pos c22] at H;have c22b0 : decide (t478 < t479) = true:=decide_eq_true c22;clear c22;simp only [Option.some.injEq,Prod.mk.injEq] at H;obtain ⟨rfl,rfl⟩ := H
     try go_wp2
     have n0_:=am_ (blk_drew BK474.out);have n1_:=am_ (blk_drew BK475.out);have n2_:=am_ (below_drew1 HB.out);clear BK474;clear BK475;clear HB;have BK474:=n0_;have BK475:=n1_;have HB:=n2_;clear n0_ n1_ n2_
     refine start_ (n:=10) (S:=fun w' => w'.cell? ⟨gb474,0,none⟩ = some (.int .i64 a0_0) ∧ w'.cell? ⟨gb474,1,none⟩ = some (.slice A0_1 l0_1.length c0_1) ∧ w'.cell? ⟨gb474,2,none⟩ = some (.int .i64 a0_2) ∧ w'.cell? ⟨gb475,0,none⟩ = some (.int .i64 a1_0) ∧ w'.cell? ⟨gb475,1,none⟩ = some (.slice A1_1 l1_1.length c1_1) ∧ w'.cell? ⟨gb475,2,none⟩ = some (.int .i64 a1_2)) (ds := []) #[false,false,false,false,false,false,false,false,false,false] (by kernel_rfl) rfl rfl ⟨(blk_cell BK474.out 0).trans rfl,(blk_cell BK474.out 1).trans rfl,(blk_cell BK474.out 2).trans rfl,(blk_cell BK475.out 0).trans rfl,(blk_cell BK475.out 1).trans rfl,(blk_cell BK475.out 2).trans rfl⟩ (fun hHeld => ?_);refine with_tabW spec_CheaperCharge.tab3 spec_CheaperCharge.bits3 (fun HT_ HW_ => ?_)
     generalize wc.drew = w23 at BK474 BK475 HB hHeld ⊢;refine pure_ (i:=1) (N:=some 25) (v:=?_) (a':=?_) #[false,true,false,false,false,false,false,false,false,false] rfl rfl (any_of HT_.out (by kernel_rfl)) (fun _ _ _ h => h) (Or.inl ⟨by rfl, ?_⟩) ?_ ?_
     rotate_left
     ·intro w'
      go_simp
      with_reducible rfl
     rotate_left
     ·simp only [Act.put,sA_,s0_,s1_,i64_w,i32_w]
      rfl
     refine pure_ (i:=2) (N:=some 26) (v:=?_) (a':=?_) #[false,true,true,false,false,false,false,false,false,false] rfl rfl (any_of HT_.out (by kernel_rfl)) (fun _ _ _ h => h) (Or.inl ⟨by rfl, ?_⟩) ?_ ?_
     rotate_left
     ·intro w'
      go_simp
      with_reducible rfl
     rotate_left
     ·simp only [Act.put,sA_,s0_,s1_,i64_w,i32_w]
      rfl
     refine pure_ (i:=5) (N:=some 29) (v:=?_) (a':=?_) #[false,true,true,false,false,true,false,false,false,false] rfl rfl (any_of HT_.out (by kernel_rfl)) (fun _ _ _ h => h) (Or.inl ⟨by rfl, ?_⟩) ?_ ?_
     rotate_left
     ·intro w'
      go_simp
      with_reducible rfl
     rotate_left
     ·simp only [Act.put,sA_,s0_,s1_,i64_w,i32_w]
      rfl
     refine pure_ (i:=6) (N:=some 30) (v:=?_) (a':=?_) #[false,true,true,false,false,true,true,false,false,false] rfl rfl (any_of HT_.out (by kernel_rfl)) (fun _ _ _ h => h) (Or.inl ⟨by rfl, ?_⟩) ?_ ?_
     rotate_left
     ·intro w'
      go_simp
      with_reducible rfl
     rotate_left
     ·simp only [Act.put,sA_,s0_,s1_,i64_w,i32_w]
      rfl
     refine take_ (i:=0) (N:=some 24) (v:=?_) (a':=?_) #[true,true,true,false,false,true,true,false,false,false] rfl rfl (take_ofW HT_.out HW_.out (by kernel_rfl)) (fun _ _ _ h => h) (Or.inl ⟨by rfl, ?_⟩) hHeld ?_ ?_
     rotate_left
     ·rintro w' ⟨s0,s1,s2,s3,s4,s5⟩
      go_simp
      with_reducible rfl
     rotate_left
     ·simp only [Act.put,sA_,s0_,s1_,i64_w,i32_w]
      rfl
     refine take_ (i:=4) (N:=some 28) (v:=?_) (a':=?_) #[true,true,true,false,true,true,true,false,false,false] rfl rfl (take_ofW HT_.out HW_.out (by kernel_rfl)) (fun _ _ _ h => h) (Or.inl ⟨by rfl, ?_⟩) hHeld ?_ ?_
     rotate_left
     ·rintro w' ⟨s0,s1,s2,s3,s4,s5⟩
      go_simp
      with_reducible rfl
     rotate_left
     ·simp only [Act.put,sA_,s0_,s1_,i64_w,i32_w]
      rfl
     refine one_ (i:=3) (N:=some 27) #[true,true,true,true,true,true,true,false,false,false] rfl rfl (one_of HT_.out (by kernel_rfl)) (by decide) (fun K hK => ?_);refine goes_ Tryz.func39 (by kernel_rfl) rfl #[.agg #[.int .i64 a0_0, .slice A0_1 l0_1.length c0_1, .int .i64 a0_2], .int .i64 a2, .int .i64 a3] (by rfl) rfl rfl (by (try simp only [List.map_toArray,List.map_cons,List.map_nil]);rfl) ?_
     with_reducible refine (spec_l22Pay.calls kj4 a0_0 _ _ l0_1 a0_2 a2 a3 t478 _ ?side1 ?side2 A20.out).mono ?_
     (case side1 => repeat (exact (Kd.C_below HR0_1.out HB.out)))
     (case side2 => exact HC0_1.out)
     rintro e w24 ⟨rfl,hb⟩;refine ⟨_,rfl, ?_⟩;have n0_:=am_ (blk_below (by exact BK474.out) hb);have n1_:=am_ (blk_below (by exact BK475.out) hb);have n2_:=am_ (below_step (by exact HB.out) hb);clear BK474;clear BK475;clear HB;have BK474:=n0_;have BK475:=n1_;have HB:=n2_;clear n0_ n1_ n2_;(try clear hb)
     (skip)
     (skip)
     (skip)
     refine hK.out _ _ ⟨(blk_cell BK474.out 0).trans rfl,(blk_cell BK474.out 1).trans rfl,(blk_cell BK474.out 2).trans rfl,(blk_cell BK475.out 0).trans rfl,(blk_cell BK475.out 1).trans rfl,(blk_cell BK475.out 2).trans rfl⟩ (fun hHeld => ?_);clear hK K;refine norm_ (a':=?_) ?_ ?_
     rotate_left
     ·show Act.put _ (some 27) _ = _
      simp only [Act.put,sA_,s0_,s1_,i64_w,i32_w]
      rfl
     refine one_ (i:=7) (N:=some 31) #[true,true,true,true,true,true,true,true,false,false] rfl rfl (one_of HT_.out (by kernel_rfl)) (by decide) (fun K hK => ?_);refine goes_ Tryz.func39 (by kernel_rfl) rfl #[.agg #[.int .i64 a1_0, .slice A1_1 l1_1.length c1_1, .int .i64 a1_2], .int .i64 a2, .int .i64 a3] (by rfl) rfl rfl (by (try simp only [List.map_toArray,List.map_cons,List.map_nil]);rfl) ?_
     with_reducible refine (spec_l22Pay.calls kj4 a1_0 _ _ l1_1 a1_2 a2 a3 t479 _ ?side1 ?side2 A21.out).mono ?_
     (case side1 => repeat (exact (Kd.C_below HR1_1.out HB.out)))
     (case side2 => exact HC1_1.out)
     rintro e w25 ⟨rfl,hb⟩;refine ⟨_,rfl, ?_⟩;have n0_:=am_ (blk_below (by exact BK474.out) hb);have n1_:=am_ (blk_below (by exact BK475.out) hb);have n2_:=am_ (below_step (by exact HB.out) hb);clear BK474;clear BK475;clear HB;have BK474:=n0_;have BK475:=n1_;have HB:=n2_;clear n0_ n1_ n2_;(try clear hb)
     (skip)
     (skip)
     (skip)
     refine hK.out _ _ ⟨(blk_cell BK474.out 0).trans rfl,(blk_cell BK474.out 1).trans rfl,(blk_cell BK474.out 2).trans rfl,(blk_cell BK475.out 0).trans rfl,(blk_cell BK475.out 1).trans rfl,(blk_cell BK475.out 2).trans rfl⟩ (fun hHeld => ?_);clear hK K;refine norm_ (a':=?_) ?_ ?_
     rotate_left
     ·show Act.put _ (some 31) _ = _
      simp only [Act.put,sA_,s0_,s1_,i64_w,i32_w]
      rfl
     refine pure_ (i:=8) (N:=some 10) (v:=?_) (a':=?_) #[true,true,true,true,true,true,true,true,true,false] rfl rfl (any_of HT_.out (by kernel_rfl)) (fun _ _ _ h => h) (Or.inl ⟨by rfl, ?_⟩) ?_ ?_
     rotate_left
     ·intro w'
      go_simp
      with_reducible rfl
     rotate_left
     ·simp only [Act.put,sA_,s0_,s1_,i64_w,i32_w]
      rfl
     refine pure_ (i:=9) (N:=some 11) (v:=?_) (a':=?_) #[true,true,true,true,true,true,true,true,true,true] rfl rfl (any_of HT_.out (by kernel_rfl)) (fun _ _ _ h => h) (Or.inl ⟨by rfl, ?_⟩) ?_ ?_
     rotate_left
     ·intro w'
      go_simp
      with_reducible rfl
     rotate_left
     ·simp only [Act.put,sA_,s0_,s1_,i64_w,i32_w]
      rfl
     refine done_ (done_of HT_.out (by kernel_rfl)) ?_
     try go_wp2
     go_ret2
     exact ⟨by rfl,by exact HB.out⟩
    ·rw [if_neg c22] at H;have c22b0 : decide (t478 < t479) = false:=decide_eq_false c22;clear c22
     by_cases c26 : t478 > t479
     ·rw [if_pos c26] at H;have c26b0 : decide (t479 < t478) = true:=decide_eq_true c26;clear c26;simp only [Option.some.injEq,Prod.mk.injEq] at H;obtain ⟨rfl,rfl⟩ := H
      try go_wp2
      have n0_:=am_ (blk_drew BK474.out);have n1_:=am_ (blk_drew BK475.out);have n2_:=am_ (below_drew1 HB.out);clear BK474;clear BK475;clear HB;have BK474:=n0_;have BK475:=n1_;have HB:=n2_;clear n0_ n1_ n2_
      refine start_ (n:=10) (S:=fun w' => w'.cell? ⟨gb474,0,none⟩ = some (.int .i64 a0_0) ∧ w'.cell? ⟨gb474,1,none⟩ = some (.slice A0_1 l0_1.length c0_1) ∧ w'.cell? ⟨gb474,2,none⟩ = some (.int .i64 a0_2) ∧ w'.cell? ⟨gb475,0,none⟩ = some (.int .i64 a1_0) ∧ w'.cell? ⟨gb475,1,none⟩ = some (.slice A1_1 l1_1.length c1_1) ∧ w'.cell? ⟨gb475,2,none⟩ = some (.int .i64 a1_2)) (ds := []) #[false,false,false,false,false,false,false,false,false,false] (by kernel_rfl) rfl rfl ⟨(blk_cell BK474.out 0).trans rfl,(blk_cell BK474.out 1).trans rfl,(blk_cell BK474.out 2).trans rfl,(blk_cell BK475.out 0).trans rfl,(blk_cell BK475.out 1).trans rfl,(blk_cell BK475.out 2).trans rfl⟩ (fun hHeld => ?_);refine with_tabW spec_CheaperCharge.tab3 spec_CheaperCharge.bits3 (fun HT_ HW_ => ?_)
      generalize wc.drew = w27 at BK474 BK475 HB hHeld ⊢;refine pure_ (i:=1) (N:=some 25) (v:=?_) (a':=?_) #[false,true,false,false,false,false,false,false,false,false] rfl rfl (any_of HT_.out (by kernel_rfl)) (fun _ _ _ h => h) (Or.inl ⟨by rfl, ?_⟩) ?_ ?_
      rotate_left
      ·intro w'
       go_simp
       with_reducible rfl
      rotate_left
      ·simp only [Act.put,sA_,s0_,s1_,i64_w,i32_w]
       rfl
      refine pure_ (i:=2) (N:=some 26) (v:=?_) (a':=?_) #[false,true,true,false,false,false,false,false,false,false] rfl rfl (any_of HT_.out (by kernel_rfl)) (fun _ _ _ h => h) (Or.inl ⟨by rfl, ?_⟩) ?_ ?_
      rotate_left
      ·intro w'
       go_simp
       with_reducible rfl
      rotate_left
      ·simp only [Act.put,sA_,s0_,s1_,i64_w,i32_w]
       rfl
      refine pure_ (i:=5) (N:=some 29) (v:=?_) (a':=?_) #[false,true,true,false,false,true,false,false,false,false] rfl rfl (any_of HT_.out (by kernel_rfl)) (fun _ _ _ h => h) (Or.inl ⟨by rfl, ?_⟩) ?_ ?_
      rotate_left
      ·intro w'
       go_simp
       with_reducible rfl
      rotate_left
      ·simp only [Act.put,sA_,s0_,s1_,i64_w,i32_w]
       rfl
      refine pure_ (i:=6) (N:=some 30) (v:=?_) (a':=?_) #[false,true,true,false,false,true,true,false,false,false] rfl rfl (any_of HT_.out (by kernel_rfl)) (fun _ _ _ h => h) (Or.inl ⟨by rfl, ?_⟩) ?_ ?_
      rotate_left
      ·intro w'
       go_simp
       with_reducible rfl
      rotate_left
      ·simp only [Act.put,sA_,s0_,s1_,i64_w,i32_w]
       rfl
      refine take_ (i:=0) (N:=some 24) (v:=?_) (a':=?_) #[true,true,true,false,false,true,true,false,false,false] rfl rfl (take_ofW HT_.out HW_.out (by kernel_rfl)) (fun _ _ _ h => h) (Or.inl ⟨by rfl, ?_⟩) hHeld ?_ ?_
      rotate_left
      ·rintro w' ⟨s0,s1,s2,s3,s4,s5⟩
       go_simp
       with_reducible rfl
      rotate_left
      ·simp only [Act.put,sA_,s0_,s1_,i64_w,i32_w]
       rfl
      refine take_ (i:=4) (N:=some 28) (v:=?_) (a':=?_) #[true,true,true,false,true,true,true,false,false,false] rfl rfl (take_ofW HT_.out HW_.out (by kernel_rfl)) (fun _ _ _ h => h) (Or.inl ⟨by rfl, ?_⟩) hHeld ?_ ?_
      rotate_left
      ·rintro w' ⟨s0,s1,s2,s3,s4,s5⟩
       go_simp
       with_reducible rfl
      rotate_left
      ·simp only [Act.put,sA_,s0_,s1_,i64_w,i32_w]
       rfl
      refine one_ (i:=3) (N:=some 27) #[true,true,true,true,true,true,true,false,false,false] rfl rfl (one_of HT_.out (by kernel_rfl)) (by decide) (fun K hK => ?_);refine goes_ Tryz.func39 (by kernel_rfl) rfl #[.agg #[.int .i64 a0_0, .slice A0_1 l0_1.length c0_1, .int .i64 a0_2], .int .i64 a2, .int .i64 a3] (by rfl) rfl rfl (by (try simp only [List.map_toArray,List.map_cons,List.map_nil]);rfl) ?_
      with_reducible refine (spec_l22Pay.calls kj4 a0_0 _ _ l0_1 a0_2 a2 a3 t478 _ ?side1 ?side2 A20.out).mono ?_
      (case side1 => repeat (exact (Kd.C_below HR0_1.out HB.out)))
      (case side2 => exact HC0_1.out)
      rintro e w28 ⟨rfl,hb⟩;refine ⟨_,rfl, ?_⟩;have n0_:=am_ (blk_below (by exact BK474.out) hb);have n1_:=am_ (blk_below (by exact BK475.out) hb);have n2_:=am_ (below_step (by exact HB.out) hb);clear BK474;clear BK475;clear HB;have BK474:=n0_;have BK475:=n1_;have HB:=n2_;clear n0_ n1_ n2_;(try clear hb)
      (skip)
      (skip)
      (skip)
      refine hK.out _ _ ⟨(blk_cell BK474.out 0).trans rfl,(blk_cell BK474.out 1).trans rfl,(blk_cell BK474.out 2).trans rfl,(blk_cell BK475.out 0).trans rfl,(blk_cell BK475.out 1).trans rfl,(blk_cell BK475.out 2).trans rfl⟩ (fun hHeld => ?_);clear hK K;refine norm_ (a':=?_) ?_ ?_
      rotate_left
      ·show Act.put _ (some 27) _ = _
       simp only [Act.put,sA_,s0_,s1_,i64_w,i32_w]
       rfl
      refine one_ (i:=7) (N:=some 31) #[true,true,true,true,true,true,true,true,false,false] rfl rfl (one_of HT_.out (by kernel_rfl)) (by decide) (fun K hK => ?_);refine goes_ Tryz.func39 (by kernel_rfl) rfl #[.agg #[.int .i64 a1_0, .slice A1_1 l1_1.length c1_1, .int .i64 a1_2], .int .i64 a2, .int .i64 a3] (by rfl) rfl rfl (by (try simp only [List.map_toArray,List.map_cons,List.map_nil]);rfl) ?_
      with_reducible refine (spec_l22Pay.calls kj4 a1_0 _ _ l1_1 a1_2 a2 a3 t479 _ ?side1 ?side2 A21.out).mono ?_
      (case side1 => repeat (exact (Kd.C_below HR1_1.out HB.out)))
      (case side2 => exact HC1_1.out)
      rintro e w29 ⟨rfl,hb⟩;refine ⟨_,rfl, ?_⟩;have n0_:=am_ (blk_below (by exact BK474.out) hb);have n1_:=am_ (blk_below (by exact BK475.out) hb);have n2_:=am_ (below_step (by exact HB.out) hb);clear BK474;clear BK475;clear HB;have BK474:=n0_;have BK475:=n1_;have HB:=n2_;clear n0_ n1_ n2_;(try clear hb)
      (skip)
      (skip)
      (skip)
      refine hK.out _ _ ⟨(blk_cell BK474.out 0).trans rfl,(blk_cell BK474.out 1).trans rfl,(blk_cell BK474.out 2).trans rfl,(blk_cell BK475.out 0).trans rfl,(blk_cell BK475.out 1).trans rfl,(blk_cell BK475.out 2).trans rfl⟩ (fun hHeld => ?_);clear hK K;refine norm_ (a':=?_) ?_ ?_
      rotate_left
      ·show Act.put _ (some 31) _ = _
       simp only [Act.put,sA_,s0_,s1_,i64_w,i32_w]
       rfl
      refine pure_ (i:=8) (N:=some 10) (v:=?_) (a':=?_) #[true,true,true,true,true,true,true,true,true,false] rfl rfl (any_of HT_.out (by kernel_rfl)) (fun _ _ _ h => h) (Or.inl ⟨by rfl, ?_⟩) ?_ ?_
      rotate_left
      ·intro w'
       go_simp
       with_reducible rfl
      rotate_left
      ·simp only [Act.put,sA_,s0_,s1_,i64_w,i32_w]
       rfl
      refine pure_ (i:=9) (N:=some 11) (v:=?_) (a':=?_) #[true,true,true,true,true,true,true,true,true,true] rfl rfl (any_of HT_.out (by kernel_rfl)) (fun _ _ _ h => h) (Or.inl ⟨by rfl, ?_⟩) ?_ ?_
      rotate_left
      ·intro w'
       go_simp
       with_reducible rfl
      rotate_left
      ·simp only [Act.put,sA_,s0_,s1_,i64_w,i32_w]
       rfl
      refine done_ (done_of HT_.out (by kernel_rfl)) ?_
      try go_wp2
      go_ret2
      exact ⟨by rfl,by exact HB.out⟩
     ·rw [if_neg c26] at H;have c26b0 : decide (t479 < t478) = false:=decide_eq_false c26;clear c26;simp only [Option.some.injEq,Prod.mk.injEq] at H;obtain ⟨rfl,rfl⟩ := H
      try go_wp2
      have n0_:=am_ (blk_drew BK474.out);have n1_:=am_ (blk_drew BK475.out);have n2_:=am_ (below_drew1 HB.out);clear BK474;clear BK475;clear HB;have BK474:=n0_;have BK475:=n1_;have HB:=n2_;clear n0_ n1_ n2_
      refine start_ (n:=10) (S:=fun w' => w'.cell? ⟨gb474,0,none⟩ = some (.int .i64 a0_0) ∧ w'.cell? ⟨gb474,1,none⟩ = some (.slice A0_1 l0_1.length c0_1) ∧ w'.cell? ⟨gb474,2,none⟩ = some (.int .i64 a0_2) ∧ w'.cell? ⟨gb475,0,none⟩ = some (.int .i64 a1_0) ∧ w'.cell? ⟨gb475,1,none⟩ = some (.slice A1_1 l1_1.length c1_1) ∧ w'.cell? ⟨gb475,2,none⟩ = some (.int .i64 a1_2)) (ds := []) #[false,false,false,false,false,false,false,false,false,false] (by kernel_rfl) rfl rfl ⟨(blk_cell BK474.out 0).trans rfl,(blk_cell BK474.out 1).trans rfl,(blk_cell BK474.out 2).trans rfl,(blk_cell BK475.out 0).trans rfl,(blk_cell BK475.out 1).trans rfl,(blk_cell BK475.out 2).trans rfl⟩ (fun hHeld => ?_);refine with_tabW spec_CheaperCharge.tab3 spec_CheaperCharge.bits3 (fun HT_ HW_ => ?_)
      generalize wc.drew = w30 at BK474 BK475 HB hHeld ⊢;refine pure_ (i:=1) (N:=some 25) (v:=?_) (a':=?_) #[false,true,false,false,false,false,false,false,false,false] rfl rfl (any_of HT_.out (by kernel_rfl)) (fun _ _ _ h => h) (Or.inl ⟨by rfl, ?_⟩) ?_ ?_
      rotate_left
      ·intro w'
       go_simp
       with_reducible rfl
      rotate_left
      ·simp only [Act.put,sA_,s0_,s1_,i64_w,i32_w]
       rfl
      refine pure_ (i:=2) (N:=some 26) (v:=?_) (a':=?_) #[false,true,true,false,false,false,false,false,false,false] rfl rfl (any_of HT_.out (by kernel_rfl)) (fun _ _ _ h => h) (Or.inl ⟨by rfl, ?_⟩) ?_ ?_
      rotate_left
      ·intro w'
       go_simp
       with_reducible rfl
      rotate_left
      ·simp only [Act.put,sA_,s0_,s1_,i64_w,i32_w]
       rfl
      refine pure_ (i:=5) (N:=some 29) (v:=?_) (a':=?_) #[false,true,true,false,false,true,false,false,false,false] rfl rfl (any_of HT_.out (by kernel_rfl)) (fun _ _ _ h => h) (Or.inl ⟨by rfl, ?_⟩) ?_ ?_
      rotate_left
      ·intro w'
       go_simp
       with_reducible rfl
      rotate_left
      ·simp only [Act.put,sA_,s0_,s1_,i64_w,i32_w]
       rfl
      refine pure_ (i:=6) (N:=some 30) (v:=?_) (a':=?_) #[false,true,true,false,false,true,true,false,false,false] rfl rfl (any_of HT_.out (by kernel_rfl)) (fun _ _ _ h => h) (Or.inl ⟨by rfl, ?_⟩) ?_ ?_
      rotate_left
      ·intro w'
       go_simp
       with_reducible rfl
      rotate_left
      ·simp only [Act.put,sA_,s0_,s1_,i64_w,i32_w]
       rfl
      refine take_ (i:=0) (N:=some 24) (v:=?_) (a':=?_) #[true,true,true,false,false,true,true,false,false,false] rfl rfl (take_ofW HT_.out HW_.out (by kernel_rfl)) (fun _ _ _ h => h) (Or.inl ⟨by rfl, ?_⟩) hHeld ?_ ?_
      rotate_left
      ·rintro w' ⟨s0,s1,s2,s3,s4,s5⟩
       go_simp
       with_reducible rfl
      rotate_left
      ·simp only [Act.put,sA_,s0_,s1_,i64_w,i32_w]
       rfl
      refine take_ (i:=4) (N:=some 28) (v:=?_) (a':=?_) #[true,true,true,false,true,true,true,false,false,false] rfl rfl (take_ofW HT_.out HW_.out (by kernel_rfl)) (fun _ _ _ h => h) (Or.inl ⟨by rfl, ?_⟩) hHeld ?_ ?_
      rotate_left
      ·rintro w' ⟨s0,s1,s2,s3,s4,s5⟩
       go_simp
       with_reducible rfl
      rotate_left
      ·simp only [Act.put,sA_,s0_,s1_,i64_w,i32_w]
       rfl
      refine one_ (i:=3) (N:=some 27) #[true,true,true,true,true,true,true,false,false,false] rfl rfl (one_of HT_.out (by kernel_rfl)) (by decide) (fun K hK => ?_);refine goes_ Tryz.func39 (by kernel_rfl) rfl #[.agg #[.int .i64 a0_0, .slice A0_1 l0_1.length c0_1, .int .i64 a0_2], .int .i64 a2, .int .i64 a3] (by rfl) rfl rfl (by (try simp only [List.map_toArray,List.map_cons,List.map_nil]);rfl) ?_
      with_reducible refine (spec_l22Pay.calls kj4 a0_0 _ _ l0_1 a0_2 a2 a3 t478 _ ?side1 ?side2 A20.out).mono ?_
      (case side1 => repeat (exact (Kd.C_below HR0_1.out HB.out)))
      (case side2 => exact HC0_1.out)
      rintro e w31 ⟨rfl,hb⟩;refine ⟨_,rfl, ?_⟩;have n0_:=am_ (blk_below (by exact BK474.out) hb);have n1_:=am_ (blk_below (by exact BK475.out) hb);have n2_:=am_ (below_step (by exact HB.out) hb);clear BK474;clear BK475;clear HB;have BK474:=n0_;have BK475:=n1_;have HB:=n2_;clear n0_ n1_ n2_;(try clear hb)
      (skip)
      (skip)
      (skip)
      refine hK.out _ _ ⟨(blk_cell BK474.out 0).trans rfl,(blk_cell BK474.out 1).trans rfl,(blk_cell BK474.out 2).trans rfl,(blk_cell BK475.out 0).trans rfl,(blk_cell BK475.out 1).trans rfl,(blk_cell BK475.out 2).trans rfl⟩ (fun hHeld => ?_);clear hK K;refine norm_ (a':=?_) ?_ ?_
      rotate_left
      ·show Act.put _ (some 27) _ = _
       simp only [Act.put,sA_,s0_,s1_,i64_w,i32_w]
       rfl
      refine one_ (i:=7) (N:=some 31) #[true,true,true,true,true,true,true,true,false,false] rfl rfl (one_of HT_.out (by kernel_rfl)) (by decide) (fun K hK => ?_);refine goes_ Tryz.func39 (by kernel_rfl) rfl #[.agg #[.int .i64 a1_0, .slice A1_1 l1_1.length c1_1, .int .i64 a1_2], .int .i64 a2, .int .i64 a3] (by rfl) rfl rfl (by (try simp only [List.map_toArray,List.map_cons,List.map_nil]);rfl) ?_
      with_reducible refine (spec_l22Pay.calls kj4 a1_0 _ _ l1_1 a1_2 a2 a3 t479 _ ?side1 ?side2 A21.out).mono ?_
      (case side1 => repeat (exact (Kd.C_below HR1_1.out HB.out)))
      (case side2 => exact HC1_1.out)
      rintro e w32 ⟨rfl,hb⟩;refine ⟨_,rfl, ?_⟩;have n0_:=am_ (blk_below (by exact BK474.out) hb);have n1_:=am_ (blk_below (by exact BK475.out) hb);have n2_:=am_ (below_step (by exact HB.out) hb);clear BK474;clear BK475;clear HB;have BK474:=n0_;have BK475:=n1_;have HB:=n2_;clear n0_ n1_ n2_;(try clear hb)
      (skip)
      (skip)
      (skip)
      refine hK.out _ _ ⟨(blk_cell BK474.out 0).trans rfl,(blk_cell BK474.out 1).trans rfl,(blk_cell BK474.out 2).trans rfl,(blk_cell BK475.out 0).trans rfl,(blk_cell BK475.out 1).trans rfl,(blk_cell BK475.out 2).trans rfl⟩ (fun hHeld => ?_);clear hK K;refine norm_ (a':=?_) ?_ ?_
      rotate_left
      ·show Act.put _ (some 31) _ = _
       simp only [Act.put,sA_,s0_,s1_,i64_w,i32_w]
       rfl
      refine pure_ (i:=8) (N:=some 10) (v:=?_) (a':=?_) #[true,true,true,true,true,true,true,true,true,false] rfl rfl (any_of HT_.out (by kernel_rfl)) (fun _ _ _ h => h) (Or.inl ⟨by rfl, ?_⟩) ?_ ?_
      rotate_left
      ·intro w'
       go_simp
       with_reducible rfl
      rotate_left
      ·simp only [Act.put,sA_,s0_,s1_,i64_w,i32_w]
       rfl
      refine pure_ (i:=9) (N:=some 11) (v:=?_) (a':=?_) #[true,true,true,true,true,true,true,true,true,true] rfl rfl (any_of HT_.out (by kernel_rfl)) (fun _ _ _ h => h) (Or.inl ⟨by rfl, ?_⟩) ?_ ?_
      rotate_left
      ·intro w'
       go_simp
       with_reducible rfl
      rotate_left
      ·simp only [Act.put,sA_,s0_,s1_,i64_w,i32_w]
       rfl
      refine done_ (done_of HT_.out (by kernel_rfl)) ?_
      try go_wp2
      go_ret2
      exact ⟨by rfl,by exact HB.out⟩

end Go.Proofs.YtciecfaeeogdoaaGreatDoor.PFnTariffs
