-- Written by a program of this session, over the kit's print (wip/xprint.py)
import Derived.Test.YtcjhmkhhhkcgkaaPFnFilesx0
import Derived.Test.YtcjhmkhhhkcgkaaPFnFilesx8
namespace Go.Proofs.Ytcjhmkhhhkcgkaa.PFnFiles
open Go.RowKit Go.Proofs.YtcjhmkhhhkcgkaaW.PrintWords Go.Proofs.YtcjhmkhhhkcgkaaW.PrintLast Go.Proofs.YtcjhmkhhhkcgkaaW.PrintMore
attribute [local go_sem] max2_int min2_int max_two min_two max_three min_three max_four min_four   -- for this text's walks alone
set_option linter.unusedVariables false
set_option linter.unusedSimpArgs false

/-! ### spec_BusiestHold: function 18 -/
mutual
def spec_BusiestHold.l0 : Nat → List (S26) → Int → Int → Int → Option (Int × Int × Bool)
 | 0,_,_,_,_ => none
 | k + 1,x0,x5,x6,x7 => if x7 ≤ 8 then (spec_BusiestHold.l1 k x0 x5 x6 x7 0 0) else (some (x5,x6,true))
def spec_BusiestHold.l1 : Nat → List (S26) → Int → Int → Int → Int → Int → Option (Int × Int × Bool)
 | 0,_,_,_,_,_,_ => none
 | k + 1,x0,x5,x6,x7,x8,x9 => if x9 < (x0.length : Int) then (if 0 ≤ x9 then (if (rd_T26 x0 x9).f2 = true then (if (Go.bits .and .i64 ((rd_T26 x0 x9).f3) x7) = 0 then (spec_BusiestHold.l1 k x0 x5 x6 x7 x8 (wrap64 (x9 + 1))) else (spec_BusiestHold.l1 k x0 x5 x6 x7 (wrap64 (x8 + 1)) (wrap64 (x9 + 1)))) else (spec_BusiestHold.l1 k x0 x5 x6 x7 x8 (wrap64 (x9 + 1)))) else (none)) else (if x8 > x6 then (spec_BusiestHold.l0 k x0 x7 x8 (wrap64 (2 * x7))) else (spec_BusiestHold.l0 k x0 x5 x6 (wrap64 (2 * x7))))
end
def spec_BusiestHold.f (k : Nat) (l0 : List (S26)) : Option (Int × Int × Bool):=(spec_l20Good.f k l0).bind fun t426 => (if t426 = true then (spec_BusiestHold.l0 k l0 0 (-1) 1) else (some (0,0,false)))
theorem spec_BusiestHold.mono_l : ∀ k,(∀ y0 y1 y2 y3,LeO (spec_BusiestHold.l0 k y0 y1 y2 y3) (spec_BusiestHold.l0 (k + 1) y0 y1 y2 y3)) ∧ (∀ y0 y1 y2 y3 y4 y5,LeO (spec_BusiestHold.l1 k y0 y1 y2 y3 y4 y5) (spec_BusiestHold.l1 (k + 1) y0 y1 y2 y3 y4 y5))
 | 0 => ⟨fun _ _ _ _ r h => by simp [spec_BusiestHold.l0] at h,fun _ _ _ _ _ _ r h => by simp [spec_BusiestHold.l1] at h⟩
 | k + 1 => by
  obtain ⟨ih0,ih1⟩ := spec_BusiestHold.mono_l k
  refine ⟨?_, ?_⟩
  ·intro y0 y1 y2 y3
   unfold spec_BusiestHold.l0
   repeat' first
   | (with_reducible exact ih0 _ _ _ _)
   | (with_reducible exact ih1 _ _ _ _ _ _)
   | (with_reducible exact spec_l20Good.mono _ _)
   | (with_reducible exact LeO.refl _)
   | (with_reducible exact LeO.none _)
   | (with_reducible refine LeO.ite ?_ ?_)
   | (with_reducible refine LeO.bind ?_ (fun _ => ?_))
   | exact ih0 _ _ _ _
   | exact ih1 _ _ _ _ _ _
   | exact spec_l20Good.mono _ _
   | exact LeO.none _
   | refine LeO.ite ?_ ?_
   | refine LeO.bind ?_ (fun _ => ?_)
  ·intro y0 y1 y2 y3 y4 y5
   unfold spec_BusiestHold.l1
   repeat' first
   | (with_reducible exact ih0 _ _ _ _)
   | (with_reducible exact ih1 _ _ _ _ _ _)
   | (with_reducible exact spec_l20Good.mono _ _)
   | (with_reducible exact LeO.refl _)
   | (with_reducible exact LeO.none _)
   | (with_reducible refine LeO.ite ?_ ?_)
   | (with_reducible refine LeO.bind ?_ (fun _ => ?_))
   | exact ih0 _ _ _ _
   | exact ih1 _ _ _ _ _ _
   | exact spec_l20Good.mono _ _
   | exact LeO.none _
   | refine LeO.ite ?_ ?_
   | refine LeO.bind ?_ (fun _ => ?_)
theorem spec_BusiestHold.mono : ∀ a0 k,LeO (spec_BusiestHold.f k a0) (spec_BusiestHold.f (k + 1) a0):=by
 intro a0 k
 obtain ⟨ih0,ih1⟩ := spec_BusiestHold.mono_l k
 unfold spec_BusiestHold.f
 repeat' first
   | (with_reducible exact ih0 _ _ _ _)
   | (with_reducible exact ih1 _ _ _ _ _ _)
   | (with_reducible exact spec_l20Good.mono _ _)
   | (with_reducible exact LeO.refl _)
   | (with_reducible exact LeO.none _)
   | (with_reducible refine LeO.ite ?_ ?_)
   | (with_reducible refine LeO.bind ?_ (fun _ => ?_))
   | exact ih0 _ _ _ _
   | exact ih1 _ _ _ _ _ _
   | exact spec_l20Good.mono _ _
   | exact LeO.none _
   | refine LeO.ite ?_ ?_
   | refine LeO.bind ?_ (fun _ => ?_)
set_option maxHeartbeats 8000000 in
set_option maxRecDepth 100000 in
theorem spec_BusiestHold.calls (k : Nat) (A0 : Option Addr) (c0 : Nat) (l0 : List (S26)) (r1 : Int) (r2 : Int) (r3 : Bool) (w : World) (hr0 : Kd.C k26 w A0 l0.length l0) (hc0 : l0.length ≤ c0) (h : spec_BusiestHold.f k l0 = some (r1,r2,r3)) :
  Calls Try.prog 18 #[.slice A0 l0.length c0] w fun e w' => e = .returned (.tuple #[.int .i64 r1, .int .i64 r2, .bool r3]) ∧ Below w.heap.size w w':=by
 have HR0:=Aside0.mk hr0
 have HC0:=Aside0.mk hc0
 clear hr0 hc0
 have HB:=Aside0.mk (Below.refl w.heap.size w)
 have H : ((spec_l20Good.f k l0).bind fun t426 => (if t426 = true then (spec_BusiestHold.l0 k l0 0 (-1) 1) else (some (0,0,false)))) = some (r1,r2,r3):=h
 clear h
 replace H:=Option.bind_eq_some_iff.mp H
 obtain ⟨t426,A20,H⟩ := H
 replace H : (if t426 = true then (spec_BusiestHold.l0 k l0 0 (-1) 1) else (some (0,0,false))) = some (r1,r2,r3):=H
 have A2:=Aside0.mk A20
 clear A20
 by_cases c3 : t426 = true
 ·subst c3
  have H1 : (spec_BusiestHold.l0 k l0 0 (-1) 1) = some (r1,r2,r3):=by rw [if_pos rfl] at H;exact H
  clear H
  have H:=H1
  clear H1
  have H':=Aside0.mk H
  clear H
  go_enter Try.func18,Try.ntmps18
  go_wp2_with (((with_reducible refine gate_callee (f:=25) rfl ?_);refine goesL_ (some 11) rfl rfl Try.func25 (by kernel_rfl) rfl #[.slice A0 l0.length c0] rfl (by (try simp only [List.map_toArray,List.map_cons,List.map_nil]);rfl) ?_;(with_reducible refine (spec_l20Good.calls k _ _ l0 true _ ?side1 ?side2 A2.out).mono ?_);(case side1 => repeat (exact HR0.out));(case side2 => exact HC0.out);rintro e w4 ⟨rfl,hb⟩;refine ⟨_,rfl, ?_⟩;have n0_:=Aside0.mk (below_step (by exact HB.out) hb);clear HB;have HB:=n0_;clear n0_;(try clear hb)))
  (skip)
  go_loopg [5,6,7] k (fun kq v5 v6 v7 w' => ∃ (x5_1 : Int) (x6_1 : Int) (x7_1 : Int),v5 = .int .i64 x5_1 ∧ v6 = .int .i64 x6_1 ∧ v7 = .int .i64 x7_1 ∧ Aside0 (spec_BusiestHold.l0 kq l0 x5_1 x6_1 x7_1 = some (r1,r2,r3)) ∧ Aside0 (kq ≤ k) ∧ Aside0 (Below w.heap.size w w'))
  case atStart => exact ⟨(0),((-1)),(1),(by rfl),(by rfl),(by rfl),H',⟨Nat.le_refl _⟩,⟨by exact HB.out⟩⟩
  case round =>
   clear H'
   try clear c1
   try clear c2
   try clear p2
   try clear c3
   obtain ⟨x5_1,x6_1,x7_1,rfl,rfl,rfl,HA,HK1,HB⟩ := hrel
   cases gk with
   | zero => exact absurd HA.out (by simp [spec_BusiestHold.l0])
   | succ k1 =>
    have H:=HA.out
    clear HA
    simp only [spec_BusiestHold.l0] at H
    by_cases c5 : x7_1 ≤ 8
    ·rw [if_pos c5] at H
     have c5b0 : decide (x7_1 ≤ 8) = true:=decide_eq_true c5
     clear c5
     have H':=Aside0.mk H
     clear H
     go_wp2
     (skip)
     go_loopg [8,9] k1 (fun kq v8 v9 w' => ∃ (x8_2 : Int) (x9_2 : Int),v8 = .int .i64 x8_2 ∧ v9 = .int .i64 x9_2 ∧ Aside0 (spec_BusiestHold.l1 kq l0 x5_1 x6_1 x7_1 x8_2 x9_2 = some (r1,r2,r3)) ∧ Aside0 (kq ≤ k1) ∧ Aside0 (Below w.heap.size w w'))
     case atStart => exact ⟨(0),(0),(by rfl),(by rfl),H',⟨Nat.le_refl _⟩,⟨by exact HB.out⟩⟩
     case round =>
      clear H'
      try clear c1
      try clear c2
      try clear p2
      try clear c3
      try clear c5
      try clear c5b0
      try clear p2
      obtain ⟨x8_2,x9_2,rfl,rfl,HA,HK2,HB⟩ := hrel
      cases gk with
      | zero => exact absurd HA.out (by simp [spec_BusiestHold.l1])
      | succ k2 =>
       have H:=HA.out
       clear HA
       simp only [spec_BusiestHold.l1] at H
       by_cases c6 : x9_2 < (l0.length : Int)
       ·rw [if_pos c6] at H
        have c6b0 : decide (x9_2 < (l0.length : Int)) = true:=decide_eq_true c6
        clear c6
        by_cases c7 : 0 ≤ x9_2
        ·rw [if_pos c7] at H
         have c7b0 : decide (0 ≤ x9_2) = true:=decide_eq_true c7
         clear c7
         obtain ⟨bq8,hbq8⟩ : ∃ b_ : Bool,b_ = ((rd_T26 l0 x9_2).f2):=⟨_,rfl⟩
         replace H : (if bq8 = true then (if (Go.bits .and .i64 ((rd_T26 l0 x9_2).f3) x7_1) = 0 then (spec_BusiestHold.l1 k2 l0 x5_1 x6_1 x7_1 x8_2 (wrap64 (x9_2 + 1))) else (spec_BusiestHold.l1 k2 l0 x5_1 x6_1 x7_1 (wrap64 (x8_2 + 1)) (wrap64 (x9_2 + 1)))) else (spec_BusiestHold.l1 k2 l0 x5_1 x6_1 x7_1 x8_2 (wrap64 (x9_2 + 1)))) = some (r1,r2,r3):=by rw [← hbq8] at H;exact H
         have Nbq8:=Aside0.mk hbq8
         clear hbq8
         by_cases c9 : bq8 = true
         ·subst c9
          have H1 : (if (Go.bits .and .i64 ((rd_T26 l0 x9_2).f3) x7_1) = 0 then (spec_BusiestHold.l1 k2 l0 x5_1 x6_1 x7_1 x8_2 (wrap64 (x9_2 + 1))) else (spec_BusiestHold.l1 k2 l0 x5_1 x6_1 x7_1 (wrap64 (x8_2 + 1)) (wrap64 (x9_2 + 1)))) = some (r1,r2,r3):=by rw [if_pos rfl] at H;exact H
          clear H
          have H:=H1
          clear H1
          by_cases c10 : (Go.bits .and .i64 ((rd_T26 l0 x9_2).f3) x7_1) = 0
          ·rw [if_pos c10] at H
           have c10b0 : ((Go.bits .and .i64 ((rd_T26 l0 x9_2).f3) x7_1) == 0) = true:=beq_iff_eq.mpr c10
           have c10b1 : ((Go.bits .and .i64 ((rd_T26 l0 x9_2).f3) x7_1) != 0) = false:=bne_eq_false_iff_eq.mpr c10
           clear c10
           have H':=Aside0.mk H
           clear H
           have p427 : 0 ≤ (x9_2 : Int):=of_decide_eq_true (by (with_reducible assumption))
           have q427 : x9_2 < (l0.length : Int):=of_decide_eq_true (by (with_reducible assumption))
           obtain ⟨ad427,e427,hx427_0,hx427_1,hx427_2,hx427_3⟩ := at_T26 HR0.out x9_2 p427 q427
           (try rw [← Nbq8.out] at hx427_2)
           cases e427
           replace hx427_0:=(HB.out.cell (World.block_lt_of_cell? w _ hx427_0)).trans hx427_0
           replace hx427_1:=(HB.out.cell (World.block_lt_of_cell? w _ hx427_1)).trans hx427_1
           replace hx427_2:=(HB.out.cell (World.block_lt_of_cell? w _ hx427_2)).trans hx427_2
           replace hx427_3:=(HB.out.cell (World.block_lt_of_cell? w _ hx427_3)).trans hx427_3
           replace p427:=eq_true p427
           replace q427:=eq_true q427
           have p428 : 0 ≤ (x9_2 : Int):=of_decide_eq_true (by (with_reducible assumption))
           have q428 : x9_2 < (l0.length : Int):=of_decide_eq_true (by (with_reducible assumption))
           obtain ⟨ad428,e428,hx428_0,hx428_1,hx428_2,hx428_3⟩ := at_T26 HR0.out x9_2 p428 q428
           (try rw [← Nbq8.out] at hx428_2)
           obtain rfl : ad427 = ad428:=(by injection e428)
           replace hx428_0:=(HB.out.cell (World.block_lt_of_cell? w _ hx428_0)).trans hx428_0
           replace hx428_1:=(HB.out.cell (World.block_lt_of_cell? w _ hx428_1)).trans hx428_1
           replace hx428_2:=(HB.out.cell (World.block_lt_of_cell? w _ hx428_2)).trans hx428_2
           replace hx428_3:=(HB.out.cell (World.block_lt_of_cell? w _ hx428_3)).trans hx428_3
           replace p428:=eq_true p428
           replace q428:=eq_true q428
           go_wp2
           go_roundg k2
           case measure => have:=HK1.out;have:=HK2.out;omega
           case rel => exact ⟨(x8_2),(wrap64 (x9_2 + 1)),(by rfl),(by rfl),H',⟨by have:=HK1.out;have:=HK2.out;omega⟩,⟨by exact HB.out⟩⟩
          ·rw [if_neg c10] at H
           have c10b0 : ((Go.bits .and .i64 ((rd_T26 l0 x9_2).f3) x7_1) == 0) = false:=beq_eq_false_iff_ne.mpr c10
           have c10b1 : ((Go.bits .and .i64 ((rd_T26 l0 x9_2).f3) x7_1) != 0) = true:=bne_iff_ne.mpr c10
           have H':=Aside0.mk H
           clear H
           have p427 : 0 ≤ (x9_2 : Int):=of_decide_eq_true (by (with_reducible assumption))
           have q427 : x9_2 < (l0.length : Int):=of_decide_eq_true (by (with_reducible assumption))
           obtain ⟨ad427,e427,hx427_0,hx427_1,hx427_2,hx427_3⟩ := at_T26 HR0.out x9_2 p427 q427
           (try rw [← Nbq8.out] at hx427_2)
           cases e427
           replace hx427_0:=(HB.out.cell (World.block_lt_of_cell? w _ hx427_0)).trans hx427_0
           replace hx427_1:=(HB.out.cell (World.block_lt_of_cell? w _ hx427_1)).trans hx427_1
           replace hx427_2:=(HB.out.cell (World.block_lt_of_cell? w _ hx427_2)).trans hx427_2
           replace hx427_3:=(HB.out.cell (World.block_lt_of_cell? w _ hx427_3)).trans hx427_3
           replace p427:=eq_true p427
           replace q427:=eq_true q427
           have p428 : 0 ≤ (x9_2 : Int):=of_decide_eq_true (by (with_reducible assumption))
           have q428 : x9_2 < (l0.length : Int):=of_decide_eq_true (by (with_reducible assumption))
           obtain ⟨ad428,e428,hx428_0,hx428_1,hx428_2,hx428_3⟩ := at_T26 HR0.out x9_2 p428 q428
           (try rw [← Nbq8.out] at hx428_2)
           obtain rfl : ad427 = ad428:=(by injection e428)
           replace hx428_0:=(HB.out.cell (World.block_lt_of_cell? w _ hx428_0)).trans hx428_0
           replace hx428_1:=(HB.out.cell (World.block_lt_of_cell? w _ hx428_1)).trans hx428_1
           replace hx428_2:=(HB.out.cell (World.block_lt_of_cell? w _ hx428_2)).trans hx428_2
           replace hx428_3:=(HB.out.cell (World.block_lt_of_cell? w _ hx428_3)).trans hx428_3
           replace p428:=eq_true p428
           replace q428:=eq_true q428
           go_wp2
           go_roundg k2
           case measure => have:=HK1.out;have:=HK2.out;omega
           case rel => exact ⟨(wrap64 (x8_2 + 1)),(wrap64 (x9_2 + 1)),(by rfl),(by rfl),H',⟨by have:=HK1.out;have:=HK2.out;omega⟩,⟨by exact HB.out⟩⟩
         ·replace c9:=Bool.eq_false_iff.mpr c9
          subst c9
          have H1 : (spec_BusiestHold.l1 k2 l0 x5_1 x6_1 x7_1 x8_2 (wrap64 (x9_2 + 1))) = some (r1,r2,r3):=by rw [if_neg (show ¬ (false = true) by decide)] at H;exact H
          clear H
          have H:=H1
          clear H1
          have H':=Aside0.mk H
          clear H
          have p427 : 0 ≤ (x9_2 : Int):=of_decide_eq_true (by (with_reducible assumption))
          have q427 : x9_2 < (l0.length : Int):=of_decide_eq_true (by (with_reducible assumption))
          obtain ⟨ad427,e427,hx427_0,hx427_1,hx427_2,hx427_3⟩ := at_T26 HR0.out x9_2 p427 q427
          (try rw [← Nbq8.out] at hx427_2)
          cases e427
          replace hx427_0:=(HB.out.cell (World.block_lt_of_cell? w _ hx427_0)).trans hx427_0
          replace hx427_1:=(HB.out.cell (World.block_lt_of_cell? w _ hx427_1)).trans hx427_1
          replace hx427_2:=(HB.out.cell (World.block_lt_of_cell? w _ hx427_2)).trans hx427_2
          replace hx427_3:=(HB.out.cell (World.block_lt_of_cell? w _ hx427_3)).trans hx427_3
          replace p427:=eq_true p427
          replace q427:=eq_true q427
          go_wp2
          go_roundg k2
          case measure => have:=HK1.out;have:=HK2.out;omega
          case rel => exact ⟨(x8_2),(wrap64 (x9_2 + 1)),(by rfl),(by rfl),H',⟨by have:=HK1.out;have:=HK2.out;omega⟩,⟨by exact HB.out⟩⟩
        ·rw [if_neg c7] at H
         exact absurd H (by simp)
       ·rw [if_neg c6] at H
        have c6b0 : decide (x9_2 < (l0.length : Int)) = false:=decide_eq_false c6
        clear c6
        by_cases c11 : x8_2 > x6_1
        ·rw [if_pos c11] at H
         have c11b0 : decide (x6_1 < x8_2) = true:=decide_eq_true c11
         clear c11
         have H':=Aside0.mk H
         clear H
         go_wp2
         go_roundg k2
         case measure => have:=HK1.out;have:=HK2.out;omega
         case rel => exact ⟨(x7_1),(x8_2),(wrap64 (2 * x7_1)),(by rfl),(by rfl),(by rfl),H',⟨by have:=HK1.out;have:=HK2.out;omega⟩,⟨by exact HB.out⟩⟩
        ·rw [if_neg c11] at H
         have c11b0 : decide (x6_1 < x8_2) = false:=decide_eq_false c11
         clear c11
         have H':=Aside0.mk H
         clear H
         go_wp2
         go_roundg k2
         case measure => have:=HK1.out;have:=HK2.out;omega
         case rel => exact ⟨(x5_1),(x6_1),(wrap64 (2 * x7_1)),(by rfl),(by rfl),(by rfl),H',⟨by have:=HK1.out;have:=HK2.out;omega⟩,⟨by exact HB.out⟩⟩
    ·rw [if_neg c5] at H
     have c5b0 : decide (x7_1 ≤ 8) = false:=decide_eq_false c5
     clear c5
     simp only [Option.some.injEq,Prod.mk.injEq] at H
     obtain ⟨rfl,rfl,rfl⟩ := H
     go_wp2
     go_ret3
     exact ⟨by rfl,by exact HB.out⟩
 ·replace c3:=Bool.eq_false_iff.mpr c3
  subst c3
  have H1 : (some (0,0,false)) = some (r1,r2,r3):=by rw [if_neg (show ¬ (false = true) by decide)] at H;exact H
  clear H
  have H:=H1
  clear H1
  simp only [Option.some.injEq,Prod.mk.injEq] at H
  obtain ⟨rfl,rfl,rfl⟩ := H
  go_enter Try.func18,Try.ntmps18
  go_wp2_with (((with_reducible refine gate_callee (f:=25) rfl ?_);refine goesL_ (some 11) rfl rfl Try.func25 (by kernel_rfl) rfl #[.slice A0 l0.length c0] rfl (by (try simp only [List.map_toArray,List.map_cons,List.map_nil]);rfl) ?_;(with_reducible refine (spec_l20Good.calls k _ _ l0 false _ ?side1 ?side2 A2.out).mono ?_);(case side1 => repeat (exact HR0.out));(case side2 => exact HC0.out);rintro e w12 ⟨rfl,hb⟩;refine ⟨_,rfl, ?_⟩;have n0_:=Aside0.mk (below_step (by exact HB.out) hb);clear HB;have HB:=n0_;clear n0_;(try clear hb)))
  go_ret3
  exact ⟨by rfl,by exact HB.out⟩

end Go.Proofs.Ytcjhmkhhhkcgkaa.PFnFiles
