-- Written by a program of this session, over the kit's print (wip/xprint.py)
import Derived.Test.YtafdafmoiocjgaaPFnChargesx0
import Derived.Test.YtafdafmoiocjgaaPFnChargesx3
import Derived.Test.YtafdafmoiocjgaaPFnChargesx4
namespace Go.Proofs.Ytafdafmoiocjgaa.PFnCharges
open Go.RowKit Go.Proofs.YtafdafmoiocjgaaW.PrintWords Go.Proofs.YtafdafmoiocjgaaW.PrintLast Go.Proofs.YtafdafmoiocjgaaW.PrintMore
attribute [local go_sem] max2_int min2_int max_two min_two max_three min_three max_four min_four   -- for this text's walks alone
set_option linter.unusedVariables false
set_option linter.unusedSimpArgs false

/-! ### spec_l22Step: function 56 -/
def spec_l22Step.l0 : Nat → Int → Int → Int → Int → List (S51) → Int → Option (Int)
 | 0,_,_,_,_,_,_ => none
 | k + 1,x1,x5,x6,x285000,x285001,x285002 => if (wrap64 (x6 + 1)) < (x285001.length : Int) then (if 0 ≤ x6 then (if x6 < (x285001.length : Int) then (if x1 ≤ (wrap64 (x5 + ((rd_T51 x285001 x6).f0))) then (some x6) else (spec_l22Step.l0 k x1 (wrap64 (x5 + ((rd_T51 x285001 x6).f0))) (wrap64 (x6 + 1)) x285000 x285001 x285002)) else (none)) else (none)) else (some (wrap64 ((x285001.length : Int) - 1)))
def spec_l22Step.f (k : Nat) (a0_0 : Int) (l0_1 : List (S51)) (a0_2 : Int) (a1 : Int) : Option (Int):=if a1 ≤ a0_0 then (some (-1)) else (spec_l22Step.l0 k a1 a0_0 0 a0_0 l0_1 a0_2)
theorem spec_l22Step.mono_l : ∀ k,(∀ y0 y1 y2 y3 y4 y5,LeO (spec_l22Step.l0 k y0 y1 y2 y3 y4 y5) (spec_l22Step.l0 (k + 1) y0 y1 y2 y3 y4 y5))
 | 0 => fun _ _ _ _ _ _ r h => by simp [spec_l22Step.l0] at h
 | k + 1 => by
  have ih0:=spec_l22Step.mono_l k
  ·intro y0 y1 y2 y3 y4 y5
   unfold spec_l22Step.l0
   repeat' first
   | (with_reducible exact ih0 _ _ _ _ _ _)
   | (with_reducible exact LeO.refl _)
   | (with_reducible exact LeO.none _)
   | (with_reducible refine LeO.ite ?_ ?_)
   | (with_reducible refine LeO.bind ?_ (fun _ => ?_))
   | exact ih0 _ _ _ _ _ _
   | exact LeO.none _
   | refine LeO.ite ?_ ?_
   | refine LeO.bind ?_ (fun _ => ?_)
theorem spec_l22Step.mono : ∀ a0 a1 a2 a3 k,LeO (spec_l22Step.f k a0 a1 a2 a3) (spec_l22Step.f (k + 1) a0 a1 a2 a3):=by
 intro a0 a1 a2 a3 k
 have ih0:=spec_l22Step.mono_l k
 unfold spec_l22Step.f
 repeat' first
   | (with_reducible exact ih0 _ _ _ _ _ _)
   | (with_reducible exact LeO.refl _)
   | (with_reducible exact LeO.none _)
   | (with_reducible refine LeO.ite ?_ ?_)
   | (with_reducible refine LeO.bind ?_ (fun _ => ?_))
   | exact ih0 _ _ _ _ _ _
   | exact LeO.none _
   | refine LeO.ite ?_ ?_
   | refine LeO.bind ?_ (fun _ => ?_)
set_option maxHeartbeats 8000000 in
set_option maxRecDepth 100000 in
theorem spec_l22Step.calls (k : Nat) (a0_0 : Int) (A0_1 : Option Addr) (c0_1 : Nat) (l0_1 : List (S51)) (a0_2 : Int) (a1 : Int) (r : Int) (w : World) (hr0_1 : Kd.C k51 w A0_1 l0_1.length l0_1) (hc0_1 : l0_1.length ≤ c0_1) (h : spec_l22Step.f k a0_0 l0_1 a0_2 a1 = some r) :
  Calls Try.prog 56 #[.agg #[.int .i64 a0_0, .slice A0_1 l0_1.length c0_1, .int .i64 a0_2], .int .i64 a1] w fun e w' => e = .returned (.int .i64 r) ∧ Below w.heap.size w w':=by
 have hu38:=Try.underlying38
 have HR0_1:=Aside0.mk hr0_1
 have HC0_1:=Aside0.mk hc0_1
 clear hr0_1 hc0_1
 have HB:=Aside0.mk (Below.refl w.heap.size w)
 have H : (if a1 ≤ a0_0 then (some (-1)) else (spec_l22Step.l0 k a1 a0_0 0 a0_0 l0_1 a0_2)) = some r:=h
 clear h
 by_cases c3 : a1 ≤ a0_0
 ·rw [if_pos c3] at H
  have c3b0 : decide (a1 ≤ a0_0) = true:=decide_eq_true c3
  clear c3
  obtain rfl:=Option.some.inj H
  go_enter Try.func56,Try.ntmps56
  go_wp2_with (((with_reducible refine gate_dst (N:=2) rfl ?_);refine box_event ?hg (N:=2) ?hd (cs:=#[.int .i64 a0_0, .slice A0_1 l0_1.length c0_1, .int .i64 a0_2]) (t:=38) ?hr ?_;(case hd => rfl);(case hg => rfl);(case hr => (go_simp;done));intro gb284 hg w4 hbox hb;have n0_:=Aside0.mk (below_step (by exact HB.out) hb);have n1_:=Aside0.mk (hbox);have n2_:=Aside0.mk ((by rw [hg];exact (below_size (by exact HB.out)) : w.heap.size ≤ gb284));have n3_:=Aside0.mk ((by rw [hg];exact (below_size (by exact HB.out)) : w.heap.size ≤ gb284));clear HB;have HB:=n0_;have BK284:=n1_;have GW284:=n2_;have GE284:=n3_;clear n0_ n1_ n2_ n3_;clear hb hbox hg;have hcz5_0 : w4.cell? ⟨gb284,0,none⟩ = some (.int .i64 a0_0):=(blk_cell BK284.out 0).trans rfl;have hcz5_1 : w4.cell? ⟨gb284,1,none⟩ = some (.slice A0_1 l0_1.length c0_1):=(blk_cell BK284.out 1).trans rfl;have hcz5_2 : w4.cell? ⟨gb284,2,none⟩ = some (.int .i64 a0_2):=(blk_cell BK284.out 2).trans rfl;have hfz5_0:=blk_frozen BK284.out 0;have hfz5_1:=blk_frozen BK284.out 1;have hfz5_2:=blk_frozen BK284.out 2))
  go_ret
  exact ⟨by rfl,by exact HB.out⟩
 ·rw [if_neg c3] at H
  have c3b0 : decide (a1 ≤ a0_0) = false:=decide_eq_false c3
  clear c3
  have H':=Aside0.mk H
  clear H
  go_enter Try.func56,Try.ntmps56
  go_wp2_with (((with_reducible refine gate_dst (N:=2) rfl ?_);refine box_event ?hg (N:=2) ?hd (cs:=#[.int .i64 a0_0, .slice A0_1 l0_1.length c0_1, .int .i64 a0_2]) (t:=38) ?hr ?_;(case hd => rfl);(case hg => rfl);(case hr => (go_simp;done));intro gb284 hg w6 hbox hb;have n0_:=Aside0.mk (below_step (by exact HB.out) hb);have n1_:=Aside0.mk (hbox);have n2_:=Aside0.mk ((by rw [hg];exact (below_size (by exact HB.out)) : w.heap.size ≤ gb284));have n3_:=Aside0.mk ((by rw [hg];exact (below_size (by exact HB.out)) : w.heap.size ≤ gb284));clear HB;have HB:=n0_;have BK284:=n1_;have GW284:=n2_;have GE284:=n3_;clear n0_ n1_ n2_ n3_;clear hb hbox hg;have hcz7_0 : w6.cell? ⟨gb284,0,none⟩ = some (.int .i64 a0_0):=(blk_cell BK284.out 0).trans rfl;have hcz7_1 : w6.cell? ⟨gb284,1,none⟩ = some (.slice A0_1 l0_1.length c0_1):=(blk_cell BK284.out 1).trans rfl;have hcz7_2 : w6.cell? ⟨gb284,2,none⟩ = some (.int .i64 a0_2):=(blk_cell BK284.out 2).trans rfl;have hfz7_0:=blk_frozen BK284.out 0;have hfz7_1:=blk_frozen BK284.out 1;have hfz7_2:=blk_frozen BK284.out 2))
  (skip)
  go_loopg [5,6] k (fun kq v5 v6 w' => ∃ (x5_1 : Int) (x6_1 : Int),v5 = .int .i64 x5_1 ∧ v6 = .int .i64 x6_1 ∧ Aside0 (spec_l22Step.l0 kq a1 x5_1 x6_1 a0_0 l0_1 a0_2 = some r) ∧ Aside0 (kq ≤ k) ∧ Aside0 (w'.heap[gb284]? = some (.cells #[.int .i64 a0_0,(.slice A0_1 l0_1.length c0_1), .int .i64 a0_2] 38 (0,0))) ∧ Aside0 (Below w.heap.size w w'))
  case atStart => exact ⟨(a0_0),(0),(by rfl),(by rfl),H',⟨Nat.le_refl _⟩,⟨by exact BK284.out⟩,⟨by exact HB.out⟩⟩
  case round =>
   clear H'
   try clear p2
   try clear c3
   try clear c3b0
   try clear c5
   try clear hcz5_0
   try clear hcz5_1
   try clear hcz5_2
   try clear hcz7_0
   try clear hcz7_1
   try clear hcz7_2
   try clear hfz5_0
   try clear hfz5_1
   try clear hfz5_2
   try clear hfz7_0
   try clear hfz7_1
   try clear hfz7_2
   obtain ⟨x5_1,x6_1,rfl,rfl,HA,HK1,BK284,HB⟩ := hrel
   cases gk with
   | zero => exact absurd HA.out (by simp [spec_l22Step.l0])
   | succ k1 =>
    have H:=HA.out
    clear HA
    simp only [spec_l22Step.l0] at H
    by_cases c8 : (wrap64 (x6_1 + 1)) < (l0_1.length : Int)
    ·rw [if_pos c8] at H
     have c8b0 : decide ((wrap64 (x6_1 + 1)) < (l0_1.length : Int)) = true:=decide_eq_true c8
     clear c8
     by_cases c9 : 0 ≤ x6_1
     ·rw [if_pos c9] at H
      have c9b0 : decide (0 ≤ x6_1) = true:=decide_eq_true c9
      clear c9
      by_cases c10 : x6_1 < (l0_1.length : Int)
      ·rw [if_pos c10] at H
       have c10b0 : decide (x6_1 < (l0_1.length : Int)) = true:=decide_eq_true c10
       clear c10
       by_cases c11 : a1 ≤ (wrap64 (x5_1 + ((rd_T51 l0_1 x6_1).f0)))
       ·rw [if_pos c11] at H
        have c11b0 : decide (a1 ≤ (wrap64 (x5_1 + ((rd_T51 l0_1 x6_1).f0)))) = true:=decide_eq_true c11
        clear c11
        obtain rfl:=Option.some.inj H
        have hcz12_0 : wr.cell? ⟨gb284,0,none⟩ = some (.int .i64 a0_0):=(blk_cell BK284.out 0).trans rfl
        have hcz12_1 : wr.cell? ⟨gb284,1,none⟩ = some (.slice A0_1 l0_1.length c0_1):=(blk_cell BK284.out 1).trans rfl
        have hcz12_2 : wr.cell? ⟨gb284,2,none⟩ = some (.int .i64 a0_2):=(blk_cell BK284.out 2).trans rfl
        have hfz12_0:=blk_frozen BK284.out 0
        have hfz12_1:=blk_frozen BK284.out 1
        have hfz12_2:=blk_frozen BK284.out 2
        have p285 : 0 ≤ (x6_1 : Int):=of_decide_eq_true (by (with_reducible assumption))
        have q285 : x6_1 < (l0_1.length : Int):=of_decide_eq_true (by (with_reducible assumption))
        obtain ⟨ad285,e285,hx285_0,hx285_1⟩ := at_T51 HR0_1.out x6_1 p285 q285
        cases e285
        replace hx285_0:=(HB.out.cell (World.block_lt_of_cell? w _ hx285_0)).trans hx285_0
        replace hx285_1:=(HB.out.cell (World.block_lt_of_cell? w _ hx285_1)).trans hx285_1
        replace p285:=eq_true p285
        replace q285:=eq_true q285
        go_wp2
        go_ret
        exact ⟨by rfl,by exact HB.out⟩
       ·rw [if_neg c11] at H
        have c11b0 : decide (a1 ≤ (wrap64 (x5_1 + ((rd_T51 l0_1 x6_1).f0)))) = false:=decide_eq_false c11
        clear c11
        have H':=Aside0.mk H
        clear H
        have hcz13_0 : wr.cell? ⟨gb284,0,none⟩ = some (.int .i64 a0_0):=(blk_cell BK284.out 0).trans rfl
        have hcz13_1 : wr.cell? ⟨gb284,1,none⟩ = some (.slice A0_1 l0_1.length c0_1):=(blk_cell BK284.out 1).trans rfl
        have hcz13_2 : wr.cell? ⟨gb284,2,none⟩ = some (.int .i64 a0_2):=(blk_cell BK284.out 2).trans rfl
        have hfz13_0:=blk_frozen BK284.out 0
        have hfz13_1:=blk_frozen BK284.out 1
        have hfz13_2:=blk_frozen BK284.out 2
        have p285 : 0 ≤ (x6_1 : Int):=of_decide_eq_true (by (with_reducible assumption))
        have q285 : x6_1 < (l0_1.length : Int):=of_decide_eq_true (by (with_reducible assumption))
        obtain ⟨ad285,e285,hx285_0,hx285_1⟩ := at_T51 HR0_1.out x6_1 p285 q285
        cases e285
        replace hx285_0:=(HB.out.cell (World.block_lt_of_cell? w _ hx285_0)).trans hx285_0
        replace hx285_1:=(HB.out.cell (World.block_lt_of_cell? w _ hx285_1)).trans hx285_1
        replace p285:=eq_true p285
        replace q285:=eq_true q285
        go_wp2
        go_roundg k1
        case measure => have:=HK1.out;omega
        case rel => exact ⟨(wrap64 (x5_1 + ((rd_T51 l0_1 x6_1).f0))),(wrap64 (x6_1 + 1)),(by rfl),(by rfl),H',⟨by have:=HK1.out;omega⟩,⟨by exact BK284.out⟩,⟨by exact HB.out⟩⟩
      ·rw [if_neg c10] at H
       exact absurd H (by simp)
     ·rw [if_neg c9] at H
      exact absurd H (by simp)
    ·rw [if_neg c8] at H
     have c8b0 : decide ((wrap64 (x6_1 + 1)) < (l0_1.length : Int)) = false:=decide_eq_false c8
     clear c8
     obtain rfl:=Option.some.inj H
     have hcz14_0 : wr.cell? ⟨gb284,0,none⟩ = some (.int .i64 a0_0):=(blk_cell BK284.out 0).trans rfl
     have hcz14_1 : wr.cell? ⟨gb284,1,none⟩ = some (.slice A0_1 l0_1.length c0_1):=(blk_cell BK284.out 1).trans rfl
     have hcz14_2 : wr.cell? ⟨gb284,2,none⟩ = some (.int .i64 a0_2):=(blk_cell BK284.out 2).trans rfl
     have hfz14_0:=blk_frozen BK284.out 0
     have hfz14_1:=blk_frozen BK284.out 1
     have hfz14_2:=blk_frozen BK284.out 2
     go_wp2
     go_ret
     exact ⟨by rfl,by exact HB.out⟩

/-! ### spec_l22Rate: function 55 -/
def spec_l22Rate.f (k : Nat) (a0_0 : Int) (l0_1 : List (S51)) (a0_2 : Int) (a1 : Int) : Option (Int):=(spec_l22Step.f k a0_0 l0_1 a0_2 a1).bind fun t287 => (if t287 < 0 then (some 0) else (if 0 ≤ t287 then (if t287 < (l0_1.length : Int) then (some ((rd_T51 l0_1 t287).f1)) else (none)) else (none)))
theorem spec_l22Rate.mono : ∀ a0 a1 a2 a3 k,LeO (spec_l22Rate.f k a0 a1 a2 a3) (spec_l22Rate.f (k + 1) a0 a1 a2 a3):=by
 intro a0 a1 a2 a3 k
 unfold spec_l22Rate.f
 repeat' first
   | (with_reducible exact spec_l22Step.mono _ _ _ _ _)
   | (with_reducible exact LeO.refl _)
   | (with_reducible exact LeO.none _)
   | (with_reducible refine LeO.ite ?_ ?_)
   | (with_reducible refine LeO.bind ?_ (fun _ => ?_))
   | exact spec_l22Step.mono _ _ _ _ _
   | exact LeO.none _
   | refine LeO.ite ?_ ?_
   | refine LeO.bind ?_ (fun _ => ?_)
set_option maxHeartbeats 8000000 in
set_option maxRecDepth 100000 in
theorem spec_l22Rate.calls (k : Nat) (a0_0 : Int) (A0_1 : Option Addr) (c0_1 : Nat) (l0_1 : List (S51)) (a0_2 : Int) (a1 : Int) (r : Int) (w : World) (hr0_1 : Kd.C k51 w A0_1 l0_1.length l0_1) (hc0_1 : l0_1.length ≤ c0_1) (h : spec_l22Rate.f k a0_0 l0_1 a0_2 a1 = some r) :
  Calls Try.prog 55 #[.agg #[.int .i64 a0_0, .slice A0_1 l0_1.length c0_1, .int .i64 a0_2], .int .i64 a1] w fun e w' => e = .returned (.int .i64 r) ∧ Below w.heap.size w w':=by
 have hu38:=Try.underlying38
 have HR0_1:=Aside0.mk hr0_1
 have HC0_1:=Aside0.mk hc0_1
 clear hr0_1 hc0_1
 have HB:=Aside0.mk (Below.refl w.heap.size w)
 have H : ((spec_l22Step.f k a0_0 l0_1 a0_2 a1).bind fun t287 => (if t287 < 0 then (some 0) else (if 0 ≤ t287 then (if t287 < (l0_1.length : Int) then (some ((rd_T51 l0_1 t287).f1)) else (none)) else (none)))) = some r:=h
 clear h
 replace H:=Option.bind_eq_some_iff.mp H
 obtain ⟨t287,A30,H⟩ := H
 replace H : (if t287 < 0 then (some 0) else (if 0 ≤ t287 then (if t287 < (l0_1.length : Int) then (some ((rd_T51 l0_1 t287).f1)) else (none)) else (none))) = some r:=H
 have A3:=Aside0.mk A30
 clear A30
 by_cases c4 : t287 < 0
 ·rw [if_pos c4] at H
  have c4b0 : decide (t287 < 0) = true:=decide_eq_true c4
  clear c4
  obtain rfl:=Option.some.inj H
  go_enter Try.func55,Try.ntmps55
  go_wp2_with (first | ((with_reducible refine gate_dst (N:=2) rfl ?_);refine box_event ?hg (N:=2) ?hd (cs:=#[.int .i64 a0_0, .slice A0_1 l0_1.length c0_1, .int .i64 a0_2]) (t:=38) ?hr ?_;(case hd => rfl);(case hg => rfl);(case hr => (go_simp;done));intro gb286 hg w5 hbox hb;have n0_:=Aside0.mk (below_step (by exact HB.out) hb);have n1_:=Aside0.mk (hbox);have n2_:=Aside0.mk ((by rw [hg];exact (below_size (by exact HB.out)) : w.heap.size ≤ gb286));have n3_:=Aside0.mk ((by rw [hg];exact (below_size (by exact HB.out)) : w.heap.size ≤ gb286));clear HB;have HB:=n0_;have BK286:=n1_;have GW286:=n2_;have GE286:=n3_;clear n0_ n1_ n2_ n3_;clear hb hbox hg;have hcz6_0 : w5.cell? ⟨gb286,0,none⟩ = some (.int .i64 a0_0):=(blk_cell BK286.out 0).trans rfl;have hcz6_1 : w5.cell? ⟨gb286,1,none⟩ = some (.slice A0_1 l0_1.length c0_1):=(blk_cell BK286.out 1).trans rfl;have hcz6_2 : w5.cell? ⟨gb286,2,none⟩ = some (.int .i64 a0_2):=(blk_cell BK286.out 2).trans rfl;have hfz6_0:=blk_frozen BK286.out 0;have hfz6_1:=blk_frozen BK286.out 1;have hfz6_2:=blk_frozen BK286.out 2) | ((with_reducible refine gate_callee (f:=56) rfl ?_);refine goesL_ (some 8) rfl rfl Try.func56 (by kernel_rfl) rfl #[.agg #[.int .i64 a0_0, .slice A0_1 l0_1.length c0_1, .int .i64 a0_2], .int .i64 a1] rfl (by (try simp only [List.map_toArray,List.map_cons,List.map_nil]);rfl) ?_;(with_reducible refine (spec_l22Step.calls k a0_0 _ _ l0_1 a0_2 a1 t287 _ ?side1 ?side2 A3.out).mono ?_);(case side1 => repeat (exact (Kd.C_below HR0_1.out HB.out)));(case side2 => exact HC0_1.out);rintro e w7 ⟨rfl,hb⟩;refine ⟨_,rfl, ?_⟩;have n0_:=Aside0.mk (blk_below (g:=gb286) (o := .cells #[.int .i64 a0_0, .slice A0_1 l0_1.length c0_1, .int .i64 a0_2] 38 (0,0)) (by exact BK286.out) hb);have n1_:=Aside0.mk (below_step (by exact HB.out) hb);clear BK286;clear HB;have BK286:=n0_;have HB:=n1_;clear n0_ n1_;(try clear hb)))
  go_ret
  exact ⟨by rfl,by exact HB.out⟩
 ·rw [if_neg c4] at H
  have c4b0 : decide (t287 < 0) = false:=decide_eq_false c4
  clear c4
  by_cases c8 : 0 ≤ t287
  ·rw [if_pos c8] at H
   have c8b0 : decide (0 ≤ t287) = true:=decide_eq_true c8
   clear c8
   by_cases c9 : t287 < (l0_1.length : Int)
   ·rw [if_pos c9] at H
    have c9b0 : decide (t287 < (l0_1.length : Int)) = true:=decide_eq_true c9
    clear c9
    obtain rfl:=Option.some.inj H
    go_enter Try.func55,Try.ntmps55
    go_wp2_with (first | ((with_reducible refine gate_dst (N:=2) rfl ?_);refine box_event ?hg (N:=2) ?hd (cs:=#[.int .i64 a0_0, .slice A0_1 l0_1.length c0_1, .int .i64 a0_2]) (t:=38) ?hr ?_;(case hd => rfl);(case hg => rfl);(case hr => (go_simp;done));intro gb286 hg w10 hbox hb;have n0_:=Aside0.mk (below_step (by exact HB.out) hb);have n1_:=Aside0.mk (hbox);have n2_:=Aside0.mk ((by rw [hg];exact (below_size (by exact HB.out)) : w.heap.size ≤ gb286));have n3_:=Aside0.mk ((by rw [hg];exact (below_size (by exact HB.out)) : w.heap.size ≤ gb286));clear HB;have HB:=n0_;have BK286:=n1_;have GW286:=n2_;have GE286:=n3_;clear n0_ n1_ n2_ n3_;clear hb hbox hg;have hcz11_0 : w10.cell? ⟨gb286,0,none⟩ = some (.int .i64 a0_0):=(blk_cell BK286.out 0).trans rfl;have hcz11_1 : w10.cell? ⟨gb286,1,none⟩ = some (.slice A0_1 l0_1.length c0_1):=(blk_cell BK286.out 1).trans rfl;have hcz11_2 : w10.cell? ⟨gb286,2,none⟩ = some (.int .i64 a0_2):=(blk_cell BK286.out 2).trans rfl;have hfz11_0:=blk_frozen BK286.out 0;have hfz11_1:=blk_frozen BK286.out 1;have hfz11_2:=blk_frozen BK286.out 2) | ((with_reducible refine gate_callee (f:=56) rfl ?_);refine goesL_ (some 8) rfl rfl Try.func56 (by kernel_rfl) rfl #[.agg #[.int .i64 a0_0, .slice A0_1 l0_1.length c0_1, .int .i64 a0_2], .int .i64 a1] rfl (by (try simp only [List.map_toArray,List.map_cons,List.map_nil]);rfl) ?_;(with_reducible refine (spec_l22Step.calls k a0_0 _ _ l0_1 a0_2 a1 t287 _ ?side1 ?side2 A3.out).mono ?_);(case side1 => repeat (exact (Kd.C_below HR0_1.out HB.out)));(case side2 => exact HC0_1.out);rintro e w12 ⟨rfl,hb⟩;refine ⟨_,rfl, ?_⟩;have n0_:=Aside0.mk (blk_below (g:=gb286) (o := .cells #[.int .i64 a0_0, .slice A0_1 l0_1.length c0_1, .int .i64 a0_2] 38 (0,0)) (by exact BK286.out) hb);have n1_:=Aside0.mk (below_step (by exact HB.out) hb);clear BK286;clear HB;have BK286:=n0_;have HB:=n1_;clear n0_ n1_;(try clear hb);have hcz13_0 : w12.cell? ⟨gb286,0,none⟩ = some (.int .i64 a0_0):=(blk_cell BK286.out 0).trans rfl;have hcz13_1 : w12.cell? ⟨gb286,1,none⟩ = some (.slice A0_1 l0_1.length c0_1):=(blk_cell BK286.out 1).trans rfl;have hcz13_2 : w12.cell? ⟨gb286,2,none⟩ = some (.int .i64 a0_2):=(blk_cell BK286.out 2).trans rfl;have hfz13_0:=blk_frozen BK286.out 0;have hfz13_1:=blk_frozen BK286.out 1;have hfz13_2:=blk_frozen BK286.out 2;have p288 : 0 ≤ (t287 : Int):=of_decide_eq_true (by (with_reducible assumption));have q288 : t287 < (l0_1.length : Int):=of_decide_eq_true (by (with_reducible assumption));obtain ⟨ad288,e288,hx288_0,hx288_1⟩ := at_T51 HR0_1.out t287 p288 q288;cases e288;replace hx288_0:=(HB.out.cell (World.block_lt_of_cell? w _ hx288_0)).trans hx288_0;replace hx288_1:=(HB.out.cell (World.block_lt_of_cell? w _ hx288_1)).trans hx288_1;replace p288:=eq_true p288;replace q288:=eq_true q288))
    go_ret
    exact ⟨by rfl,by exact HB.out⟩
   ·rw [if_neg c9] at H
    exact absurd H (by simp)
  ·rw [if_neg c8] at H
   exact absurd H (by simp)

/-! ### spec_l22Pay: function 49 -/
def spec_l22Pay.l0 : Nat → Int → Int → Int → Int → Int → List (S51) → Int → Option (Int)
 | 0,_,_,_,_,_,_,_ => none
 | k + 1,x1,x2,x7,x8,x290000,x290001,x290002 => if x8 ≤ x2 then ((spec_l22Rate.f k x290000 x290001 x290002 x8).bind fun t290 => (spec_l22Pay.l0 k x1 x2 (wrap64 (x7 + t290)) (wrap64 (x8 + 1)) x290000 x290001 x290002)) else (if x1 = 2 then (some (wrap64 (Int.tdiv (wrap64 ((wrap64 (x7 * x290002)) + 99)) 100))) else (some x7))
def spec_l22Pay.f (k : Nat) (a0_0 : Int) (l0_1 : List (S51)) (a0_2 : Int) (a1 : Int) (a2 : Int) : Option (Int):=spec_l22Pay.l0 k a1 a2 0 1 a0_0 l0_1 a0_2
theorem spec_l22Pay.mono_l : ∀ k,(∀ y0 y1 y2 y3 y4 y5 y6,LeO (spec_l22Pay.l0 k y0 y1 y2 y3 y4 y5 y6) (spec_l22Pay.l0 (k + 1) y0 y1 y2 y3 y4 y5 y6))
 | 0 => fun _ _ _ _ _ _ _ r h => by simp [spec_l22Pay.l0] at h
 | k + 1 => by
  have ih0:=spec_l22Pay.mono_l k
  ·intro y0 y1 y2 y3 y4 y5 y6
   unfold spec_l22Pay.l0
   repeat' first
   | (with_reducible exact ih0 _ _ _ _ _ _ _)
   | (with_reducible exact spec_l22Rate.mono _ _ _ _ _)
   | (with_reducible exact LeO.refl _)
   | (with_reducible exact LeO.none _)
   | (with_reducible refine LeO.ite ?_ ?_)
   | (with_reducible refine LeO.bind ?_ (fun _ => ?_))
   | exact ih0 _ _ _ _ _ _ _
   | exact spec_l22Rate.mono _ _ _ _ _
   | exact LeO.none _
   | refine LeO.ite ?_ ?_
   | refine LeO.bind ?_ (fun _ => ?_)
theorem spec_l22Pay.mono : ∀ a0 a1 a2 a3 a4 k,LeO (spec_l22Pay.f k a0 a1 a2 a3 a4) (spec_l22Pay.f (k + 1) a0 a1 a2 a3 a4):=by
 intro a0 a1 a2 a3 a4 k
 have ih0:=spec_l22Pay.mono_l k
 unfold spec_l22Pay.f
 repeat' first
   | (with_reducible exact ih0 _ _ _ _ _ _ _)
   | (with_reducible exact spec_l22Rate.mono _ _ _ _ _)
   | (with_reducible exact LeO.refl _)
   | (with_reducible exact LeO.none _)
   | (with_reducible refine LeO.ite ?_ ?_)
   | (with_reducible refine LeO.bind ?_ (fun _ => ?_))
   | exact ih0 _ _ _ _ _ _ _
   | exact spec_l22Rate.mono _ _ _ _ _
   | exact LeO.none _
   | refine LeO.ite ?_ ?_
   | refine LeO.bind ?_ (fun _ => ?_)
set_option maxHeartbeats 8000000 in
set_option maxRecDepth 100000 in
theorem spec_l22Pay.calls (k : Nat) (a0_0 : Int) (A0_1 : Option Addr) (c0_1 : Nat) (l0_1 : List (S51)) (a0_2 : Int) (a1 : Int) (a2 : Int) (r : Int) (w : World) (hr0_1 : Kd.C k51 w A0_1 l0_1.length l0_1) (hc0_1 : l0_1.length ≤ c0_1) (h : spec_l22Pay.f k a0_0 l0_1 a0_2 a1 a2 = some r) :
  Calls Try.prog 49 #[.agg #[.int .i64 a0_0, .slice A0_1 l0_1.length c0_1, .int .i64 a0_2], .int .i64 a1, .int .i64 a2] w fun e w' => e = .returned (.int .i64 r) ∧ Below w.heap.size w w':=by
 have hu38:=Try.underlying38
 have HR0_1:=Aside0.mk hr0_1
 have HC0_1:=Aside0.mk hc0_1
 clear hr0_1 hc0_1
 have HB:=Aside0.mk (Below.refl w.heap.size w)
 have H : (spec_l22Pay.l0 k a1 a2 0 1 a0_0 l0_1 a0_2) = some r:=h
 clear h
 have H':=Aside0.mk H
 clear H
 go_enter Try.func49,Try.ntmps49
 go_wp2_with (((with_reducible refine gate_dst (N:=3) rfl ?_);refine box_event ?hg (N:=3) ?hd (cs:=#[.int .i64 a0_0, .slice A0_1 l0_1.length c0_1, .int .i64 a0_2]) (t:=38) ?hr ?_;(case hd => rfl);(case hg => rfl);(case hr => (go_simp;done));intro gb289 hg w4 hbox hb;have n0_:=Aside0.mk (below_step (by exact HB.out) hb);have n1_:=Aside0.mk (hbox);have n2_:=Aside0.mk ((by rw [hg];exact (below_size (by exact HB.out)) : w.heap.size ≤ gb289));have n3_:=Aside0.mk ((by rw [hg];exact (below_size (by exact HB.out)) : w.heap.size ≤ gb289));clear HB;have HB:=n0_;have BK289:=n1_;have GW289:=n2_;have GE289:=n3_;clear n0_ n1_ n2_ n3_;clear hb hbox hg))
 go_loopg [7,8] k (fun kq v7 v8 w' => ∃ (x7_1 : Int) (x8_1 : Int),v7 = .int .i64 x7_1 ∧ v8 = .int .i64 x8_1 ∧ Aside0 (spec_l22Pay.l0 kq a1 a2 x7_1 x8_1 a0_0 l0_1 a0_2 = some r) ∧ Aside0 (kq ≤ k) ∧ Aside0 (w'.heap[gb289]? = some (.cells #[.int .i64 a0_0,(.slice A0_1 l0_1.length c0_1), .int .i64 a0_2] 38 (0,0))) ∧ Aside0 (Below w.heap.size w w'))
 case atStart => exact ⟨(0),(1),(by rfl),(by rfl),H',⟨Nat.le_refl _⟩,⟨by exact BK289.out⟩,⟨by exact HB.out⟩⟩
 case round =>
  clear H'
  try clear p2
  try clear c4
  obtain ⟨x7_1,x8_1,rfl,rfl,HA,HK1,BK289,HB⟩ := hrel
  cases gk with
  | zero => exact absurd HA.out (by simp [spec_l22Pay.l0])
  | succ k1 =>
   have H:=HA.out
   clear HA
   simp only [spec_l22Pay.l0] at H
   by_cases c5 : x8_1 ≤ a2
   ·rw [if_pos c5] at H
    have c5b0 : decide (x8_1 ≤ a2) = true:=decide_eq_true c5
    clear c5
    replace H:=Option.bind_eq_some_iff.mp H
    obtain ⟨t290,A60,H⟩ := H
    replace H : (spec_l22Pay.l0 k1 a1 a2 (wrap64 (x7_1 + t290)) (wrap64 (x8_1 + 1)) a0_0 l0_1 a0_2) = some r:=H
    have A6:=Aside0.mk A60
    clear A60
    have H':=Aside0.mk H
    clear H
    have hcz7_0 : wr.cell? ⟨gb289,0,none⟩ = some (.int .i64 a0_0):=(blk_cell BK289.out 0).trans rfl
    have hcz7_1 : wr.cell? ⟨gb289,1,none⟩ = some (.slice A0_1 l0_1.length c0_1):=(blk_cell BK289.out 1).trans rfl
    have hcz7_2 : wr.cell? ⟨gb289,2,none⟩ = some (.int .i64 a0_2):=(blk_cell BK289.out 2).trans rfl
    have hfz7_0:=blk_frozen BK289.out 0
    have hfz7_1:=blk_frozen BK289.out 1
    have hfz7_2:=blk_frozen BK289.out 2
    go_wp2_with (((with_reducible refine gate_callee (f:=55) rfl ?_);refine goesL_ (some 17) rfl rfl Try.func55 (by kernel_rfl) rfl #[.agg #[.int .i64 a0_0, .slice A0_1 l0_1.length c0_1, .int .i64 a0_2], .int .i64 x8_1] rfl (by (try simp only [List.map_toArray,List.map_cons,List.map_nil]);rfl) ?_;(with_reducible refine (spec_l22Rate.calls k1 a0_0 _ _ l0_1 a0_2 x8_1 t290 _ ?side1 ?side2 A6.out).mono ?_);(case side1 => repeat (exact (Kd.C_below HR0_1.out HB.out)));(case side2 => exact HC0_1.out);rintro e w8 ⟨rfl,hb⟩;refine ⟨_,rfl, ?_⟩;have n0_:=Aside0.mk (blk_below (g:=gb289) (o := .cells #[.int .i64 a0_0, .slice A0_1 l0_1.length c0_1, .int .i64 a0_2] 38 (0,0)) (by exact BK289.out) hb);have n1_:=Aside0.mk (below_step (by exact HB.out) hb);clear BK289;clear HB;have BK289:=n0_;have HB:=n1_;clear n0_ n1_;(try clear hb)))
    go_roundg k1
    case measure => have:=HK1.out;omega
    case rel => exact ⟨(wrap64 (x7_1 + t290)),(wrap64 (x8_1 + 1)),(by rfl),(by rfl),H',⟨by have:=HK1.out;omega⟩,⟨by exact BK289.out⟩,⟨by exact HB.out⟩⟩
   ·rw [if_neg c5] at H
    have c5b0 : decide (x8_1 ≤ a2) = false:=decide_eq_false c5
    clear c5
    by_cases c9 : a1 = 2
    ·rw [if_pos c9] at H
     have c9b0 : (a1 == 2) = true:=beq_iff_eq.mpr c9
     have c9b1 : (a1 != 2) = false:=bne_eq_false_iff_eq.mpr c9
     clear c9
     obtain rfl:=Option.some.inj H
     have hcz10_0 : wr.cell? ⟨gb289,0,none⟩ = some (.int .i64 a0_0):=(blk_cell BK289.out 0).trans rfl
     have hcz10_1 : wr.cell? ⟨gb289,1,none⟩ = some (.slice A0_1 l0_1.length c0_1):=(blk_cell BK289.out 1).trans rfl
     have hcz10_2 : wr.cell? ⟨gb289,2,none⟩ = some (.int .i64 a0_2):=(blk_cell BK289.out 2).trans rfl
     have hfz10_0:=blk_frozen BK289.out 0
     have hfz10_1:=blk_frozen BK289.out 1
     have hfz10_2:=blk_frozen BK289.out 2
     go_wp2
     go_ret
     exact ⟨by rfl,by exact HB.out⟩
    ·rw [if_neg c9] at H
     have c9b0 : (a1 == 2) = false:=beq_eq_false_iff_ne.mpr c9
     have c9b1 : (a1 != 2) = true:=bne_iff_ne.mpr c9
     obtain rfl:=Option.some.inj H
     go_wp2
     go_ret
     exact ⟨by rfl,by exact HB.out⟩

/-! ### spec_StayCharge: function 16 -/
def spec_StayCharge.f (k : Nat) (a0_0 : Int) (l0_1 : List (S51)) (a0_2 : Int) (a1 : Int) (a2 : Int) : Option (Int × Bool):=(spec_l22Asked.f k a0_0 l0_1 a0_2 a1 a2).bind fun t292 => (if t292 = true then ((spec_l22Pay.f k a0_0 l0_1 a0_2 a1 a2).bind fun t293 => (some (t293,true))) else (some (0,false)))
theorem spec_StayCharge.mono : ∀ a0 a1 a2 a3 a4 k,LeO (spec_StayCharge.f k a0 a1 a2 a3 a4) (spec_StayCharge.f (k + 1) a0 a1 a2 a3 a4):=by
 intro a0 a1 a2 a3 a4 k
 unfold spec_StayCharge.f
 repeat' first
   | (with_reducible exact spec_l22Asked.mono _ _ _ _ _ _)
   | (with_reducible exact spec_l22Pay.mono _ _ _ _ _ _)
   | (with_reducible exact LeO.refl _)
   | (with_reducible exact LeO.none _)
   | (with_reducible refine LeO.ite ?_ ?_)
   | (with_reducible refine LeO.bind ?_ (fun _ => ?_))
   | exact spec_l22Asked.mono _ _ _ _ _ _
   | exact spec_l22Pay.mono _ _ _ _ _ _
   | exact LeO.none _
   | refine LeO.ite ?_ ?_
   | refine LeO.bind ?_ (fun _ => ?_)
set_option maxHeartbeats 8000000 in
set_option maxRecDepth 100000 in
theorem spec_StayCharge.calls (k : Nat) (a0_0 : Int) (A0_1 : Option Addr) (c0_1 : Nat) (l0_1 : List (S51)) (a0_2 : Int) (a1 : Int) (a2 : Int) (r1 : Int) (r2 : Bool) (w : World) (hr0_1 : Kd.C k51 w A0_1 l0_1.length l0_1) (hc0_1 : l0_1.length ≤ c0_1) (h : spec_StayCharge.f k a0_0 l0_1 a0_2 a1 a2 = some (r1,r2)) :
  Calls Try.prog 16 #[.agg #[.int .i64 a0_0, .slice A0_1 l0_1.length c0_1, .int .i64 a0_2], .int .i64 a1, .int .i64 a2] w fun e w' => e = .returned (.tuple #[.int .i64 r1, .bool r2]) ∧ Below w.heap.size w w':=by
 have hu38:=Try.underlying38
 have HR0_1:=Aside0.mk hr0_1
 have HC0_1:=Aside0.mk hc0_1
 clear hr0_1 hc0_1
 have HB:=Aside0.mk (Below.refl w.heap.size w)
 have H : ((spec_l22Asked.f k a0_0 l0_1 a0_2 a1 a2).bind fun t292 => (if t292 = true then ((spec_l22Pay.f k a0_0 l0_1 a0_2 a1 a2).bind fun t293 => (some (t293,true))) else (some (0,false)))) = some (r1,r2):=h
 clear h
 replace H:=Option.bind_eq_some_iff.mp H
 obtain ⟨t292,A40,H⟩ := H
 replace H : (if t292 = true then ((spec_l22Pay.f k a0_0 l0_1 a0_2 a1 a2).bind fun t293 => (some (t293,true))) else (some (0,false))) = some (r1,r2):=H
 have A4:=Aside0.mk A40
 clear A40
 by_cases c5 : t292 = true
 ·subst c5
  have H1 : ((spec_l22Pay.f k a0_0 l0_1 a0_2 a1 a2).bind fun t293 => (some (t293,true))) = some (r1,r2):=by rw [if_pos rfl] at H;exact H
  clear H
  have H:=H1
  clear H1
  replace H:=Option.bind_eq_some_iff.mp H
  obtain ⟨t293,A60,H⟩ := H
  replace H : (some (t293,true)) = some (r1,r2):=H
  have A6:=Aside0.mk A60
  clear A60
  simp only [Option.some.injEq,Prod.mk.injEq] at H
  obtain ⟨rfl,rfl⟩ := H
  go_enter Try.func16,Try.ntmps16
  go_wp2_with (first | ((with_reducible refine gate_dst (N:=3) rfl ?_);refine box_event ?hg (N:=3) ?hd (cs:=#[.int .i64 a0_0, .slice A0_1 l0_1.length c0_1, .int .i64 a0_2]) (t:=38) ?hr ?_;(case hd => rfl);(case hg => rfl);(case hr => (go_simp;done));intro gb291 hg w7 hbox hb;have n0_:=Aside0.mk (below_step (by exact HB.out) hb);have n1_:=Aside0.mk (hbox);have n2_:=Aside0.mk ((by rw [hg];exact (below_size (by exact HB.out)) : w.heap.size ≤ gb291));have n3_:=Aside0.mk ((by rw [hg];exact (below_size (by exact HB.out)) : w.heap.size ≤ gb291));clear HB;have HB:=n0_;have BK291:=n1_;have GW291:=n2_;have GE291:=n3_;clear n0_ n1_ n2_ n3_;clear hb hbox hg;have hcz8_0 : w7.cell? ⟨gb291,0,none⟩ = some (.int .i64 a0_0):=(blk_cell BK291.out 0).trans rfl;have hcz8_1 : w7.cell? ⟨gb291,1,none⟩ = some (.slice A0_1 l0_1.length c0_1):=(blk_cell BK291.out 1).trans rfl;have hcz8_2 : w7.cell? ⟨gb291,2,none⟩ = some (.int .i64 a0_2):=(blk_cell BK291.out 2).trans rfl;have hfz8_0:=blk_frozen BK291.out 0;have hfz8_1:=blk_frozen BK291.out 1;have hfz8_2:=blk_frozen BK291.out 2) | ((with_reducible refine gate_callee (f:=48) rfl ?_);refine goesL_ (some 11) rfl rfl Try.func48 (by kernel_rfl) rfl #[.agg #[.int .i64 a0_0, .slice A0_1 l0_1.length c0_1, .int .i64 a0_2], .int .i64 a1, .int .i64 a2] rfl (by (try simp only [List.map_toArray,List.map_cons,List.map_nil]);rfl) ?_;(with_reducible refine (spec_l22Asked.calls k a0_0 _ _ l0_1 a0_2 a1 a2 true _ ?side1 ?side2 A4.out).mono ?_);(case side1 => repeat (exact (Kd.C_below HR0_1.out HB.out)));(case side2 => exact HC0_1.out);rintro e w9 ⟨rfl,hb⟩;refine ⟨_,rfl, ?_⟩;have n0_:=Aside0.mk (blk_below (g:=gb291) (o := .cells #[.int .i64 a0_0, .slice A0_1 l0_1.length c0_1, .int .i64 a0_2] 38 (0,0)) (by exact BK291.out) hb);have n1_:=Aside0.mk (below_step (by exact HB.out) hb);clear BK291;clear HB;have BK291:=n0_;have HB:=n1_;clear n0_ n1_;(try clear hb);have hcz10_0 : w9.cell? ⟨gb291,0,none⟩ = some (.int .i64 a0_0):=(blk_cell BK291.out 0).trans rfl;have hcz10_1 : w9.cell? ⟨gb291,1,none⟩ = some (.slice A0_1 l0_1.length c0_1):=(blk_cell BK291.out 1).trans rfl;have hcz10_2 : w9.cell? ⟨gb291,2,none⟩ = some (.int .i64 a0_2):=(blk_cell BK291.out 2).trans rfl;have hfz10_0:=blk_frozen BK291.out 0;have hfz10_1:=blk_frozen BK291.out 1;have hfz10_2:=blk_frozen BK291.out 2) | ((with_reducible refine gate_callee (f:=49) rfl ?_);refine goesL_ (some 16) rfl rfl Try.func49 (by kernel_rfl) rfl #[.agg #[.int .i64 a0_0, .slice A0_1 l0_1.length c0_1, .int .i64 a0_2], .int .i64 a1, .int .i64 a2] rfl (by (try simp only [List.map_toArray,List.map_cons,List.map_nil]);rfl) ?_;(with_reducible refine (spec_l22Pay.calls k a0_0 _ _ l0_1 a0_2 a1 a2 t293 _ ?side1 ?side2 A6.out).mono ?_);(case side1 => repeat (exact (Kd.C_below HR0_1.out HB.out)));(case side2 => exact HC0_1.out);rintro e w11 ⟨rfl,hb⟩;refine ⟨_,rfl, ?_⟩;have n0_:=Aside0.mk (blk_below (g:=gb291) (o := .cells #[.int .i64 a0_0, .slice A0_1 l0_1.length c0_1, .int .i64 a0_2] 38 (0,0)) (by exact BK291.out) hb);have n1_:=Aside0.mk (below_step (by exact HB.out) hb);clear BK291;clear HB;have BK291:=n0_;have HB:=n1_;clear n0_ n1_;(try clear hb)))
  go_ret2
  exact ⟨by rfl,by exact HB.out⟩
 ·replace c5:=Bool.eq_false_iff.mpr c5
  subst c5
  have H1 : (some (0,false)) = some (r1,r2):=by rw [if_neg (show ¬ (false = true) by decide)] at H;exact H
  clear H
  have H:=H1
  clear H1
  simp only [Option.some.injEq,Prod.mk.injEq] at H
  obtain ⟨rfl,rfl⟩ := H
  go_enter Try.func16,Try.ntmps16
  go_wp2_with (first | ((with_reducible refine gate_dst (N:=3) rfl ?_);refine box_event ?hg (N:=3) ?hd (cs:=#[.int .i64 a0_0, .slice A0_1 l0_1.length c0_1, .int .i64 a0_2]) (t:=38) ?hr ?_;(case hd => rfl);(case hg => rfl);(case hr => (go_simp;done));intro gb291 hg w12 hbox hb;have n0_:=Aside0.mk (below_step (by exact HB.out) hb);have n1_:=Aside0.mk (hbox);have n2_:=Aside0.mk ((by rw [hg];exact (below_size (by exact HB.out)) : w.heap.size ≤ gb291));have n3_:=Aside0.mk ((by rw [hg];exact (below_size (by exact HB.out)) : w.heap.size ≤ gb291));clear HB;have HB:=n0_;have BK291:=n1_;have GW291:=n2_;have GE291:=n3_;clear n0_ n1_ n2_ n3_;clear hb hbox hg;have hcz13_0 : w12.cell? ⟨gb291,0,none⟩ = some (.int .i64 a0_0):=(blk_cell BK291.out 0).trans rfl;have hcz13_1 : w12.cell? ⟨gb291,1,none⟩ = some (.slice A0_1 l0_1.length c0_1):=(blk_cell BK291.out 1).trans rfl;have hcz13_2 : w12.cell? ⟨gb291,2,none⟩ = some (.int .i64 a0_2):=(blk_cell BK291.out 2).trans rfl;have hfz13_0:=blk_frozen BK291.out 0;have hfz13_1:=blk_frozen BK291.out 1;have hfz13_2:=blk_frozen BK291.out 2) | ((with_reducible refine gate_callee (f:=48) rfl ?_);refine goesL_ (some 11) rfl rfl Try.func48 (by kernel_rfl) rfl #[.agg #[.int .i64 a0_0, .slice A0_1 l0_1.length c0_1, .int .i64 a0_2], .int .i64 a1, .int .i64 a2] rfl (by (try simp only [List.map_toArray,List.map_cons,List.map_nil]);rfl) ?_;(with_reducible refine (spec_l22Asked.calls k a0_0 _ _ l0_1 a0_2 a1 a2 false _ ?side1 ?side2 A4.out).mono ?_);(case side1 => repeat (exact (Kd.C_below HR0_1.out HB.out)));(case side2 => exact HC0_1.out);rintro e w14 ⟨rfl,hb⟩;refine ⟨_,rfl, ?_⟩;have n0_:=Aside0.mk (blk_below (g:=gb291) (o := .cells #[.int .i64 a0_0, .slice A0_1 l0_1.length c0_1, .int .i64 a0_2] 38 (0,0)) (by exact BK291.out) hb);have n1_:=Aside0.mk (below_step (by exact HB.out) hb);clear BK291;clear HB;have BK291:=n0_;have HB:=n1_;clear n0_ n1_;(try clear hb)))
  go_ret2
  exact ⟨by rfl,by exact HB.out⟩

/-! ### impl_SplitStay: function 18 -/
def impl_SplitStay.f (k : Nat) (a0_0 : Int) (l0_1 : List (S51)) (a0_2 : Int) (a1 : Int) : Option (List Int × Bool):=(impl_isStay.f k a0_0 l0_1 a0_2 1 a1).bind fun t295 => (if t295 = true then ((impl_splitStay.f k a0_0 l0_1 a0_2 a1).bind fun t296 => (some (t296,true))) else (some (([] : List Int),false)))
theorem impl_SplitStay.mono : ∀ a0 a1 a2 a3 k,LeO (impl_SplitStay.f k a0 a1 a2 a3) (impl_SplitStay.f (k + 1) a0 a1 a2 a3):=by
 intro a0 a1 a2 a3 k
 unfold impl_SplitStay.f
 repeat' first
   | (with_reducible exact impl_isStay.mono _ _ _ _ _ _)
   | (with_reducible exact impl_splitStay.mono _ _ _ _ _)
   | (with_reducible exact LeO.refl _)
   | (with_reducible exact LeO.none _)
   | (with_reducible refine LeO.ite ?_ ?_)
   | (with_reducible refine LeO.bind ?_ (fun _ => ?_))
   | exact impl_isStay.mono _ _ _ _ _ _
   | exact impl_splitStay.mono _ _ _ _ _
   | exact LeO.none _
   | refine LeO.ite ?_ ?_
   | refine LeO.bind ?_ (fun _ => ?_)
set_option maxHeartbeats 8000000 in
set_option maxRecDepth 100000 in
theorem impl_SplitStay.calls (k : Nat) (a0_0 : Int) (A0_1 : Option Addr) (c0_1 : Nat) (l0_1 : List (S51)) (a0_2 : Int) (a1 : Int) (r1 : List Int) (r2 : Bool) (w : World) (hr0_1 : Kd.C k51 w A0_1 l0_1.length l0_1) (hc0_1 : l0_1.length ≤ c0_1) (h : impl_SplitStay.f k a0_0 l0_1 a0_2 a1 = some (r1,r2)) :
  Calls Try.prog 18 #[.agg #[.int .i64 a0_0, .slice A0_1 l0_1.length c0_1, .int .i64 a0_2], .int .i64 a1] w fun e w' => ∃ v0_ : Value,e = .returned (.tuple #[v0_, .bool r2]) ∧ Kd.R (Kd.int .i64) 3 w' w.heap.size (fun _ => True) v0_ r1 ∧ Below w.heap.size w w':=by
 have hu38:=Try.underlying38
 have HR0_1:=Aside0.mk hr0_1
 have HC0_1:=Aside0.mk hc0_1
 clear hr0_1 hc0_1
 have HB:=Aside0.mk (Below.refl w.heap.size w)
 have H : ((impl_isStay.f k a0_0 l0_1 a0_2 1 a1).bind fun t295 => (if t295 = true then ((impl_splitStay.f k a0_0 l0_1 a0_2 a1).bind fun t296 => (some (t296,true))) else (some (([] : List Int),false)))) = some (r1,r2):=h
 clear h
 replace H:=Option.bind_eq_some_iff.mp H
 obtain ⟨t295,A30,H⟩ := H
 replace H : (if t295 = true then ((impl_splitStay.f k a0_0 l0_1 a0_2 a1).bind fun t296 => (some (t296,true))) else (some (([] : List Int),false))) = some (r1,r2):=H
 have A3:=Aside0.mk A30
 clear A30
 by_cases c4 : t295 = true
 ·subst c4
  have H1 : ((impl_splitStay.f k a0_0 l0_1 a0_2 a1).bind fun t296 => (some (t296,true))) = some (r1,r2):=by rw [if_pos rfl] at H;exact H
  clear H
  have H:=H1
  clear H1
  replace H:=Option.bind_eq_some_iff.mp H
  obtain ⟨t296,A50,H⟩ := H
  replace H : (some (t296,true)) = some (r1,r2):=H
  have A5:=Aside0.mk A50
  clear A50
  simp only [Option.some.injEq,Prod.mk.injEq] at H
  obtain ⟨rfl,rfl⟩ := H
  go_enter Try.func18,Try.ntmps18
  go_wp2_with (first | ((with_reducible refine gate_dst (N:=2) rfl ?_);refine box_event ?hg (N:=2) ?hd (cs:=#[.int .i64 a0_0, .slice A0_1 l0_1.length c0_1, .int .i64 a0_2]) (t:=38) ?hr ?_;(case hd => rfl);(case hg => rfl);(case hr => (go_simp;done));intro gb294 hg w6 hbox hb;have n0_:=Aside0.mk (below_step (by exact HB.out) hb);have n1_:=Aside0.mk (hbox);have n2_:=Aside0.mk ((by rw [hg];exact (below_size (by exact HB.out)) : w.heap.size ≤ gb294));have n3_:=Aside0.mk ((by rw [hg];exact (below_size (by exact HB.out)) : w.heap.size ≤ gb294));clear HB;have HB:=n0_;have BK294:=n1_;have GW294:=n2_;have GE294:=n3_;clear n0_ n1_ n2_ n3_;clear hb hbox hg;have hcz7_0 : w6.cell? ⟨gb294,0,none⟩ = some (.int .i64 a0_0):=(blk_cell BK294.out 0).trans rfl;have hcz7_1 : w6.cell? ⟨gb294,1,none⟩ = some (.slice A0_1 l0_1.length c0_1):=(blk_cell BK294.out 1).trans rfl;have hcz7_2 : w6.cell? ⟨gb294,2,none⟩ = some (.int .i64 a0_2):=(blk_cell BK294.out 2).trans rfl;have hfz7_0:=blk_frozen BK294.out 0;have hfz7_1:=blk_frozen BK294.out 1;have hfz7_2:=blk_frozen BK294.out 2) | ((with_reducible refine gate_callee (f:=46) rfl ?_);refine goesL_ (some 8) rfl rfl Try.func46 (by kernel_rfl) rfl #[.agg #[.int .i64 a0_0, .slice A0_1 l0_1.length c0_1, .int .i64 a0_2], .int .i64 1, .int .i64 a1] rfl (by (try simp only [List.map_toArray,List.map_cons,List.map_nil]);rfl) ?_;(with_reducible refine (impl_isStay.calls k a0_0 _ _ l0_1 a0_2 1 a1 true _ ?side1 ?side2 A3.out).mono ?_);(case side1 => repeat (exact (Kd.C_below HR0_1.out HB.out)));(case side2 => exact HC0_1.out);rintro e w8 ⟨rfl,hb⟩;refine ⟨_,rfl, ?_⟩;have n0_:=Aside0.mk (blk_below (g:=gb294) (o := .cells #[.int .i64 a0_0, .slice A0_1 l0_1.length c0_1, .int .i64 a0_2] 38 (0,0)) (by exact BK294.out) hb);have n1_:=Aside0.mk (below_step (by exact HB.out) hb);clear BK294;clear HB;have BK294:=n0_;have HB:=n1_;clear n0_ n1_;(try clear hb);have hcz9_0 : w8.cell? ⟨gb294,0,none⟩ = some (.int .i64 a0_0):=(blk_cell BK294.out 0).trans rfl;have hcz9_1 : w8.cell? ⟨gb294,1,none⟩ = some (.slice A0_1 l0_1.length c0_1):=(blk_cell BK294.out 1).trans rfl;have hcz9_2 : w8.cell? ⟨gb294,2,none⟩ = some (.int .i64 a0_2):=(blk_cell BK294.out 2).trans rfl;have hfz9_0:=blk_frozen BK294.out 0;have hfz9_1:=blk_frozen BK294.out 1;have hfz9_2:=blk_frozen BK294.out 2) | ((with_reducible refine gate_callee (f:=52) rfl ?_);refine goesL_ (some 12) rfl rfl Try.func52 (by kernel_rfl) rfl #[.agg #[.int .i64 a0_0, .slice A0_1 l0_1.length c0_1, .int .i64 a0_2], .int .i64 a1] rfl (by (try simp only [List.map_toArray,List.map_cons,List.map_nil]);rfl) ?_;(with_reducible refine (impl_splitStay.calls k a0_0 _ _ l0_1 a0_2 a1 t296 _ ?side1 ?side2 A5.out).mono ?_);(case side1 => repeat (exact (Kd.C_below HR0_1.out HB.out)));(case side2 => exact HC0_1.out);rintro e w10 ⟨v297,rfl,ho0,hb⟩;refine ⟨_,rfl, ?_⟩;have n0_:=Aside0.mk (Kd.R_lower ho0 (below_size (by exact HB.out)));have n1_:=Aside0.mk (blk_below (g:=gb294) (o := .cells #[.int .i64 a0_0, .slice A0_1 l0_1.length c0_1, .int .i64 a0_2] 38 (0,0)) (by exact BK294.out) hb);have n2_:=Aside0.mk (below_step (by exact HB.out) hb);clear BK294;clear HB;have HO298:=n0_;have BK294:=n1_;have HB:=n2_;clear n0_ n1_ n2_;(try clear hb);(try clear ho0)))
  go_ret2
  exact ⟨_,by rfl,by exact HO298.out,by exact HB.out⟩
 ·replace c4:=Bool.eq_false_iff.mpr c4
  subst c4
  have H1 : (some (([] : List Int),false)) = some (r1,r2):=by rw [if_neg (show ¬ (false = true) by decide)] at H;exact H
  clear H
  have H:=H1
  clear H1
  simp only [Option.some.injEq,Prod.mk.injEq] at H
  obtain ⟨rfl,rfl⟩ := H
  go_enter Try.func18,Try.ntmps18
  go_wp2_with (first | ((with_reducible refine gate_dst (N:=2) rfl ?_);refine box_event ?hg (N:=2) ?hd (cs:=#[.int .i64 a0_0, .slice A0_1 l0_1.length c0_1, .int .i64 a0_2]) (t:=38) ?hr ?_;(case hd => rfl);(case hg => rfl);(case hr => (go_simp;done));intro gb294 hg w11 hbox hb;have n0_:=Aside0.mk (below_step (by exact HB.out) hb);have n1_:=Aside0.mk (hbox);have n2_:=Aside0.mk ((by rw [hg];exact (below_size (by exact HB.out)) : w.heap.size ≤ gb294));have n3_:=Aside0.mk ((by rw [hg];exact (below_size (by exact HB.out)) : w.heap.size ≤ gb294));clear HB;have HB:=n0_;have BK294:=n1_;have GW294:=n2_;have GE294:=n3_;clear n0_ n1_ n2_ n3_;clear hb hbox hg;have hcz12_0 : w11.cell? ⟨gb294,0,none⟩ = some (.int .i64 a0_0):=(blk_cell BK294.out 0).trans rfl;have hcz12_1 : w11.cell? ⟨gb294,1,none⟩ = some (.slice A0_1 l0_1.length c0_1):=(blk_cell BK294.out 1).trans rfl;have hcz12_2 : w11.cell? ⟨gb294,2,none⟩ = some (.int .i64 a0_2):=(blk_cell BK294.out 2).trans rfl;have hfz12_0:=blk_frozen BK294.out 0;have hfz12_1:=blk_frozen BK294.out 1;have hfz12_2:=blk_frozen BK294.out 2) | ((with_reducible refine gate_callee (f:=46) rfl ?_);refine goesL_ (some 8) rfl rfl Try.func46 (by kernel_rfl) rfl #[.agg #[.int .i64 a0_0, .slice A0_1 l0_1.length c0_1, .int .i64 a0_2], .int .i64 1, .int .i64 a1] rfl (by (try simp only [List.map_toArray,List.map_cons,List.map_nil]);rfl) ?_;(with_reducible refine (impl_isStay.calls k a0_0 _ _ l0_1 a0_2 1 a1 false _ ?side1 ?side2 A3.out).mono ?_);(case side1 => repeat (exact (Kd.C_below HR0_1.out HB.out)));(case side2 => exact HC0_1.out);rintro e w13 ⟨rfl,hb⟩;refine ⟨_,rfl, ?_⟩;have n0_:=Aside0.mk (blk_below (g:=gb294) (o := .cells #[.int .i64 a0_0, .slice A0_1 l0_1.length c0_1, .int .i64 a0_2] 38 (0,0)) (by exact BK294.out) hb);have n1_:=Aside0.mk (below_step (by exact HB.out) hb);clear BK294;clear HB;have BK294:=n0_;have HB:=n1_;clear n0_ n1_;(try clear hb)))
  go_ret2
  exact ⟨_,by rfl,by exact Kd.R_nil _ _ _ _ _,by exact HB.out⟩

/-! ### laws_rSum: function 19 -/
def laws_rSum.l0 : Nat → List Int → Int → Int → Option (Int)
 | 0,_,_,_ => none
 | k + 1,x0,x3,x4 => if x4 < (x0.length : Int) then (if 0 ≤ x4 then (laws_rSum.l0 k x0 (wrap64 (x3 + (rd x0 x4))) (wrap64 (x4 + 1))) else (none)) else (some x3)
def laws_rSum.f (k : Nat) (l0 : List Int) : Option (Int):=laws_rSum.l0 k l0 0 0
theorem laws_rSum.mono_l : ∀ k,(∀ y0 y1 y2,LeO (laws_rSum.l0 k y0 y1 y2) (laws_rSum.l0 (k + 1) y0 y1 y2))
 | 0 => fun _ _ _ r h => by simp [laws_rSum.l0] at h
 | k + 1 => by
  have ih0:=laws_rSum.mono_l k
  ·intro y0 y1 y2
   unfold laws_rSum.l0
   repeat' first
   | (with_reducible exact ih0 _ _ _)
   | (with_reducible exact LeO.refl _)
   | (with_reducible exact LeO.none _)
   | (with_reducible refine LeO.ite ?_ ?_)
   | (with_reducible refine LeO.bind ?_ (fun _ => ?_))
   | exact ih0 _ _ _
   | exact LeO.none _
   | refine LeO.ite ?_ ?_
   | refine LeO.bind ?_ (fun _ => ?_)
theorem laws_rSum.mono : ∀ a0 k,LeO (laws_rSum.f k a0) (laws_rSum.f (k + 1) a0):=by
 intro a0 k
 have ih0:=laws_rSum.mono_l k
 unfold laws_rSum.f
 repeat' first
   | (with_reducible exact ih0 _ _ _)
   | (with_reducible exact LeO.refl _)
   | (with_reducible exact LeO.none _)
   | (with_reducible refine LeO.ite ?_ ?_)
   | (with_reducible refine LeO.bind ?_ (fun _ => ?_))
   | exact ih0 _ _ _
   | exact LeO.none _
   | refine LeO.ite ?_ ?_
   | refine LeO.bind ?_ (fun _ => ?_)
set_option maxHeartbeats 8000000 in
set_option maxRecDepth 100000 in
theorem laws_rSum.calls (k : Nat) (A0 : Option Addr) (c0 : Nat) (l0 : List Int) (r : Int) (w : World) (hr0 : Kd.C (Kd.int .i64) w A0 l0.length l0) (hc0 : l0.length ≤ c0) (h : laws_rSum.f k l0 = some r) :
  Calls Try.prog 19 #[.slice A0 l0.length c0] w fun e w' => e = .returned (.int .i64 r) ∧ Drawn0 w w':=by
 have HR0:=Aside0.mk hr0
 have HC0:=Aside0.mk hc0
 clear hr0 hc0
 have H : (laws_rSum.l0 k l0 0 0) = some r:=h
 clear h
 have H':=Aside0.mk H
 clear H
 go_enter Try.func19,Try.ntmps19
 go_wp2
 go_loopg [3,4] k (fun kq v3 v4 w' => ∃ (x3_1 : Int) (x4_1 : Int),v3 = .int .i64 x3_1 ∧ v4 = .int .i64 x4_1 ∧ Aside0 (laws_rSum.l0 kq l0 x3_1 x4_1 = some r) ∧ Aside0 (kq ≤ k) ∧ Drawn0 w w')
 case atStart => exact ⟨(0),(0),(by rfl),(by rfl),H',⟨Nat.le_refl _⟩,by repeat (exact Drawn0.refl _)⟩
 case round =>
  clear H'
  try clear c1
  obtain ⟨x3_1,x4_1,rfl,rfl,HA,HK1,⟨m1,rfl⟩⟩ := hrel
  cases gk with
  | zero => exact absurd HA.out (by simp [laws_rSum.l0])
  | succ k1 =>
   have H:=HA.out
   clear HA
   simp only [laws_rSum.l0] at H
   by_cases c2 : x4_1 < (l0.length : Int)
   ·rw [if_pos c2] at H
    have c2b0 : decide (x4_1 < (l0.length : Int)) = true:=decide_eq_true c2
    clear c2
    by_cases c3 : 0 ≤ x4_1
    ·rw [if_pos c3] at H
     have c3b0 : decide (0 ≤ x4_1) = true:=decide_eq_true c3
     clear c3
     have H':=Aside0.mk H
     clear H
     have p299 : 0 ≤ (x4_1 : Int):=of_decide_eq_true (by (with_reducible assumption))
     have q299 : x4_1 < (l0.length : Int):=of_decide_eq_true (by (with_reducible assumption))
     obtain ⟨ad299,e299,hx299_0⟩ := Kd.at_int HR0.out x4_1 p299 q299
     cases e299
     replace p299:=eq_true p299
     replace q299:=eq_true q299
     go_wp2
     go_roundg k1
     case measure => have:=HK1.out;omega
     case rel => exact ⟨(wrap64 (x3_1 + (rd l0 x4_1))),(wrap64 (x4_1 + 1)),(by rfl),(by rfl),H',⟨by have:=HK1.out;omega⟩,by repeat (first | exact Drawn0.refl _ | apply Drawn0.step)⟩
    ·rw [if_neg c3] at H
     exact absurd H (by simp)
   ·rw [if_neg c2] at H
    have c2b0 : decide (x4_1 < (l0.length : Int)) = false:=decide_eq_false c2
    clear c2
    obtain rfl:=Option.some.inj H
    go_wp2
    go_ret
    exact ⟨by rfl,by repeat (first | exact Drawn0.refl _ | apply Drawn0.step)⟩

end Go.Proofs.Ytafdafmoiocjgaa.PFnCharges
