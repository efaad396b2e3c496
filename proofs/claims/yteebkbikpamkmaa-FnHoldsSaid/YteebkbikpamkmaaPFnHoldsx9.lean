-- Written by a program of this session, over the kit's print (wip/xprint.py)
import Derived.Test.YteebkbikpamkmaaPFnHoldsx0
import Derived.Test.YteebkbikpamkmaaPFnHoldsx2
import Derived.Test.YteebkbikpamkmaaPFnHoldsx8
namespace Go.Proofs.Yteebkbikpamkmaa.PFnHolds
open Go.RowKit Go.Proofs.YteebkbikpamkmaaW.PrintWords Go.Proofs.YteebkbikpamkmaaW.PrintLast Go.Proofs.YteebkbikpamkmaaW.PrintMore
attribute [local go_sem] max2_int min2_int max_two min_two max_three min_three max_four min_four   -- for this text's walks alone
set_option linter.unusedVariables false
set_option linter.unusedSimpArgs false

/-! ### spec_l20Good: function 32 -/
mutual
def spec_l20Good.l0 : Nat → List (S52) → Int → Option (Bool)
 | 0,_,_ => none
 | k + 1,x0,x3 => if x3 < (x0.length : Int) then (if 0 ≤ x3 then ((spec_l1In.f ((rd_T52 x0 x3).f0) 0 240).bind fun t323 => (if t323 = true then ((spec_l2Id.f k ((rd_T52 x0 x3).f1)).bind fun t324 => (if t324 = true then ((spec_l1In.f ((rd_T52 x0 x3).f3) 1 15).bind fun t325 => (if t325 = true then (if x3 > 0 then (if 0 ≤ (wrap64 (x3 - 1)) then (if (wrap64 (x3 - 1)) < (x0.length : Int) then (spec_l20Good.j1 k x0 x3 (decide (((rd_T52 x0 (wrap64 (x3 - 1))).f0) > ((rd_T52 x0 x3).f0))) ((rd_T52 x0 x3).f0) ((rd_T52 x0 x3).f1) ((rd_T52 x0 x3).f2) ((rd_T52 x0 x3).f3)) else (none)) else (none)) else (spec_l20Good.j1 k x0 x3 false ((rd_T52 x0 x3).f0) ((rd_T52 x0 x3).f1) ((rd_T52 x0 x3).f2) ((rd_T52 x0 x3).f3))) else (spec_l20Good.j1 k x0 x3 true ((rd_T52 x0 x3).f0) ((rd_T52 x0 x3).f1) ((rd_T52 x0 x3).f2) ((rd_T52 x0 x3).f3)))) else (spec_l20Good.j1 k x0 x3 true ((rd_T52 x0 x3).f0) ((rd_T52 x0 x3).f1) ((rd_T52 x0 x3).f2) ((rd_T52 x0 x3).f3)))) else (spec_l20Good.j1 k x0 x3 true ((rd_T52 x0 x3).f0) ((rd_T52 x0 x3).f1) ((rd_T52 x0 x3).f2) ((rd_T52 x0 x3).f3)))) else (none)) else (some (decide ((x0.length : Int) ≤ 20)))
def spec_l20Good.j1 : Nat → List (S52) → Int → Bool → Int → ByteArray → Bool → Int → Option (Bool)
 | 0,_,_,_,_,_,_,_ => none
 | k + 1,x0,x3,x46,x323000,x323001,x323002,x323003 => if x46 = true then (some false) else ((spec_l20At.f k x0 x3 x323001).bind fun t327 => (if x323002 = true then (if (Go.bits .and .i64 t327 x323003) = 0 then (spec_l20Good.l0 k x0 (wrap64 (x3 + 1))) else (some false)) else (if (Go.bits .and .i64 t327 x323003) = x323003 then (spec_l20Good.l0 k x0 (wrap64 (x3 + 1))) else (some false))))
end
def spec_l20Good.f (k : Nat) (l0 : List (S52)) : Option (Bool):=spec_l20Good.l0 k l0 0
theorem spec_l20Good.mono_l : ∀ k,(∀ y0 y1,LeO (spec_l20Good.l0 k y0 y1) (spec_l20Good.l0 (k + 1) y0 y1)) ∧ (∀ y0 y1 y2 y3 y4 y5 y6,LeO (spec_l20Good.j1 k y0 y1 y2 y3 y4 y5 y6) (spec_l20Good.j1 (k + 1) y0 y1 y2 y3 y4 y5 y6))
 | 0 => ⟨fun _ _ r h => by simp [spec_l20Good.l0] at h,fun _ _ _ _ _ _ _ r h => by simp [spec_l20Good.j1] at h⟩
 | k + 1 => by
  obtain ⟨ih0,ih1⟩ := spec_l20Good.mono_l k
  refine ⟨?_, ?_⟩
  ·intro y0 y1
   unfold spec_l20Good.l0
   repeat' first
   | (with_reducible exact ih0 _ _)
   | (with_reducible exact ih1 _ _ _ _ _ _ _)
   | (with_reducible exact spec_l20At.mono _ _ _ _)
   | (with_reducible exact spec_l2Id.mono _ _)
   | (with_reducible exact LeO.refl _)
   | (with_reducible exact LeO.none _)
   | (with_reducible refine LeO.ite ?_ ?_)
   | (with_reducible refine LeO.bind ?_ (fun _ => ?_))
   | exact ih0 _ _
   | exact ih1 _ _ _ _ _ _ _
   | exact spec_l20At.mono _ _ _ _
   | exact spec_l2Id.mono _ _
   | exact LeO.none _
   | refine LeO.ite ?_ ?_
   | refine LeO.bind ?_ (fun _ => ?_)
  ·intro y0 y1 y2 y3 y4 y5 y6
   unfold spec_l20Good.j1
   repeat' first
   | (with_reducible exact ih0 _ _)
   | (with_reducible exact ih1 _ _ _ _ _ _ _)
   | (with_reducible exact spec_l20At.mono _ _ _ _)
   | (with_reducible exact spec_l2Id.mono _ _)
   | (with_reducible exact LeO.refl _)
   | (with_reducible exact LeO.none _)
   | (with_reducible refine LeO.ite ?_ ?_)
   | (with_reducible refine LeO.bind ?_ (fun _ => ?_))
   | exact ih0 _ _
   | exact ih1 _ _ _ _ _ _ _
   | exact spec_l20At.mono _ _ _ _
   | exact spec_l2Id.mono _ _
   | exact LeO.none _
   | refine LeO.ite ?_ ?_
   | refine LeO.bind ?_ (fun _ => ?_)
theorem spec_l20Good.mono : ∀ a0 k,LeO (spec_l20Good.f k a0) (spec_l20Good.f (k + 1) a0):=by
 intro a0 k
 obtain ⟨ih0,ih1⟩ := spec_l20Good.mono_l k
 unfold spec_l20Good.f
 repeat' first
   | (with_reducible exact ih0 _ _)
   | (with_reducible exact ih1 _ _ _ _ _ _ _)
   | (with_reducible exact spec_l20At.mono _ _ _ _)
   | (with_reducible exact spec_l2Id.mono _ _)
   | (with_reducible exact LeO.refl _)
   | (with_reducible exact LeO.none _)
   | (with_reducible refine LeO.ite ?_ ?_)
   | (with_reducible refine LeO.bind ?_ (fun _ => ?_))
   | exact ih0 _ _
   | exact ih1 _ _ _ _ _ _ _
   | exact spec_l20At.mono _ _ _ _
   | exact spec_l2Id.mono _ _
   | exact LeO.none _
   | refine LeO.ite ?_ ?_
   | refine LeO.bind ?_ (fun _ => ?_)
def spec_l20Good.T5 : Bool × List (List Nat × List Nat):=(true,[([],[]),([0],[0]),([1],[1]),([2],[2]),([3,2],[3]),([4],[4]),([5,4],[4,5]),([6,4,4],[4,6]),([7,4],[4,7]),([4,8],[4,8]),([9,7],[9]),([10],[10]),([11,10],[10,11]),([12,10,10],[10,12]),([13,10],[10,13]),([10,14],[10,14]),([15,13],[15]),([16],[16]),([17,16],[16,17]),([18,16,16],[16,18]),([19],[19]),([19],[19]),([21,19],[19,21]),([20,22,19],[19,20,22]),([23,19],[19,23]),([24,19],[19,24]),([19],[19]),([26,19],[19,26]),([25,27,19],[19,25,27]),([19,28,16],[16,19,28]),([16,29],[16,29])])
def spec_l20Good.B5 : List Nat := [0,1,3,7,15,31,63,127,255,511,1023,2047,4095,8191,16383,32767,65535,131071,262143,524287,1048575,1048575,3145727,8388607,16777215,33554431,1048575,68157439,268435455,536870911,1073741823]
theorem spec_l20Good.tab5 : rtab .any (opsOf Try.f32 5) = spec_l20Good.T5:=by kernel_rfl
theorem spec_l20Good.bits5 : waitsOk spec_l20Good.T5.2 spec_l20Good.B5 = true:=by kernel_rfl
set_option maxHeartbeats 8000000 in
set_option maxRecDepth 100000 in
theorem spec_l20Good.calls (k : Nat) (A0 : Option Addr) (c0 : Nat) (l0 : List (S52)) (r : Bool) (w : World) (hr0 : Kd.C k52 w A0 l0.length l0) (hc0 : l0.length ≤ c0) (h : spec_l20Good.f k l0 = some r) :
  Calls Try.prog 32 #[.slice A0 l0.length c0] w fun e w' => e = .returned (.bool r) ∧ Below w.heap.size w w':=by
 have hu52:=Try.underlying52
 have HR0:=Aside0.mk hr0
 have HC0:=Aside0.mk hc0
 clear hr0 hc0
 have HB:=Aside0.mk (Below.refl w.heap.size w)
 have H : (spec_l20Good.l0 k l0 0) = some r:=h
 clear h
 have H':=Aside0.mk H
 clear H
 go_enter Try.func32,Try.ntmps32
 go_wp2
 go_loopg [3] k (fun kq v3 w' => ∃ (x3_1 : Int),v3 = .int .i64 x3_1 ∧ Aside0 (spec_l20Good.l0 kq l0 x3_1 = some r) ∧ Aside0 (kq ≤ k) ∧ Aside0 (Below w.heap.size w w'))
 case atStart => exact ⟨(0),(by rfl),H',⟨Nat.le_refl _⟩,⟨by exact HB.out⟩⟩
 case round =>
  clear H'
  obtain ⟨x3_1,rfl,HA,HK1,HB⟩ := hrel
  cases gk with
  | zero => exact absurd HA.out (by simp [spec_l20Good.l0])
  | succ k1 =>
   have H:=HA.out
   clear HA
   simp only [spec_l20Good.l0] at H
   by_cases c2 : x3_1 < (l0.length : Int)
   ·rw [if_pos c2] at H
    have c2b0 : decide (x3_1 < (l0.length : Int)) = true:=decide_eq_true c2
    clear c2
    by_cases c3 : 0 ≤ x3_1
    ·rw [if_pos c3] at H
     have c3b0 : decide (0 ≤ x3_1) = true:=decide_eq_true c3
     clear c3
     have HC4:=Aside0.mk H
     clear H
     have p321 : 0 ≤ (x3_1 : Int):=of_decide_eq_true (by (with_reducible assumption))
     have q321 : x3_1 < (l0.length : Int):=of_decide_eq_true (by (with_reducible assumption))
     obtain ⟨ad321,e321,hx321_0,hx321_1,hx321_2,hx321_3⟩ := at_T52 HR0.out x3_1 p321 q321
     cases e321
     replace hx321_0:=(HB.out.cell (World.block_lt_of_cell? w _ hx321_0)).trans hx321_0
     replace hx321_1:=(HB.out.cell (World.block_lt_of_cell? w _ hx321_1)).trans hx321_1
     replace hx321_2:=(HB.out.cell (World.block_lt_of_cell? w _ hx321_2)).trans hx321_2
     replace hx321_3:=(HB.out.cell (World.block_lt_of_cell? w _ hx321_3)).trans hx321_3
     replace p321:=eq_true p321
     replace q321:=eq_true q321
     go_upto_region 5 with (((with_reducible refine gate_dst (N:=4) rfl ?_);refine box_event ?hg (N:=4) ?hd (cs:=#[.int .i64 0, .string (⟨#[]⟩ : ByteArray), .bool false, .int .i64 0]) (t:=52) ?hr ?_;(case hd => rfl);(case hg => rfl);(case hr => (go_simp;done));intro gb322 hg w5 hbox hb;have n0_:=Aside0.mk (below_step (by exact HB.out) hb);have n1_:=Aside0.mk (hbox);have n2_:=Aside0.mk ((by rw [hg];exact (below_size (by exact HB.out)) : w.heap.size ≤ gb322));have n3_:=Aside0.mk ((by rw [hg];exact (below_size (by exact HB.out)) : w.heap.size ≤ gb322));clear HB;have HB:=n0_;have BK322:=n1_;have GW322:=n2_;have GE322:=n3_;clear n0_ n1_ n2_ n3_;clear hb hbox hg;have hcz6_0 : w5.cell? ⟨gb322,0,none⟩ = some (.int .i64 0):=(blk_cell BK322.out 0).trans rfl;have hcz6_1 : w5.cell? ⟨gb322,1,none⟩ = some (.string (⟨#[]⟩ : ByteArray)):=(blk_cell BK322.out 1).trans rfl;have hcz6_2 : w5.cell? ⟨gb322,2,none⟩ = some (.bool false):=(blk_cell BK322.out 2).trans rfl;have hcz6_3 : w5.cell? ⟨gb322,3,none⟩ = some (.int .i64 0):=(blk_cell BK322.out 3).trans rfl;have hfz6_0:=blk_frozen BK322.out 0;have hfz6_1:=blk_frozen BK322.out 1;have hfz6_2:=blk_frozen BK322.out 2;have hfz6_3:=blk_frozen BK322.out 3))
     (skip)
     go_cut [46] (fun v46 wc => ∃ (kq : Nat) (x46_3 : Bool),v46 = .bool x46_3 ∧ Aside0 (spec_l20Good.j1 kq l0 x3_1 x46_3 ((rd_T52 l0 x3_1).f0) ((rd_T52 l0 x3_1).f1) ((rd_T52 l0 x3_1).f2) ((rd_T52 l0 x3_1).f3) = some r) ∧ Aside0 (kq ≤ k1) ∧ Aside0 (wc.heap[gb322]? = some (.cells #[.int .i64 ((rd_T52 l0 x3_1).f0), .string ((rd_T52 l0 x3_1).f1), .bool ((rd_T52 l0 x3_1).f2), .int .i64 ((rd_T52 l0 x3_1).f3)] 52 (0,0))) ∧ Aside0 (Below w.heap.size w wc))
     case first =>
      have H:=HC4.out
      clear HC4
      replace H:=Option.bind_eq_some_iff.mp H
      obtain ⟨t323,A70,H⟩ := H
      replace H : (if t323 = true then ((spec_l2Id.f k1 ((rd_T52 l0 x3_1).f1)).bind fun t324 => (if t324 = true then ((spec_l1In.f ((rd_T52 l0 x3_1).f3) 1 15).bind fun t325 => (if t325 = true then (if x3_1 > 0 then (if 0 ≤ (wrap64 (x3_1 - 1)) then (if (wrap64 (x3_1 - 1)) < (l0.length : Int) then (spec_l20Good.j1 k1 l0 x3_1 (decide (((rd_T52 l0 (wrap64 (x3_1 - 1))).f0) > ((rd_T52 l0 x3_1).f0))) ((rd_T52 l0 x3_1).f0) ((rd_T52 l0 x3_1).f1) ((rd_T52 l0 x3_1).f2) ((rd_T52 l0 x3_1).f3)) else (none)) else (none)) else (spec_l20Good.j1 k1 l0 x3_1 false ((rd_T52 l0 x3_1).f0) ((rd_T52 l0 x3_1).f1) ((rd_T52 l0 x3_1).f2) ((rd_T52 l0 x3_1).f3))) else (spec_l20Good.j1 k1 l0 x3_1 true ((rd_T52 l0 x3_1).f0) ((rd_T52 l0 x3_1).f1) ((rd_T52 l0 x3_1).f2) ((rd_T52 l0 x3_1).f3)))) else (spec_l20Good.j1 k1 l0 x3_1 true ((rd_T52 l0 x3_1).f0) ((rd_T52 l0 x3_1).f1) ((rd_T52 l0 x3_1).f2) ((rd_T52 l0 x3_1).f3)))) else (spec_l20Good.j1 k1 l0 x3_1 true ((rd_T52 l0 x3_1).f0) ((rd_T52 l0 x3_1).f1) ((rd_T52 l0 x3_1).f2) ((rd_T52 l0 x3_1).f3))) = some r:=H
      have A7:=Aside0.mk A70
      clear A70
      by_cases c8 : t323 = true
      ·subst c8
       have H1 : ((spec_l2Id.f k1 ((rd_T52 l0 x3_1).f1)).bind fun t324 => (if t324 = true then ((spec_l1In.f ((rd_T52 l0 x3_1).f3) 1 15).bind fun t325 => (if t325 = true then (if x3_1 > 0 then (if 0 ≤ (wrap64 (x3_1 - 1)) then (if (wrap64 (x3_1 - 1)) < (l0.length : Int) then (spec_l20Good.j1 k1 l0 x3_1 (decide (((rd_T52 l0 (wrap64 (x3_1 - 1))).f0) > ((rd_T52 l0 x3_1).f0))) ((rd_T52 l0 x3_1).f0) ((rd_T52 l0 x3_1).f1) ((rd_T52 l0 x3_1).f2) ((rd_T52 l0 x3_1).f3)) else (none)) else (none)) else (spec_l20Good.j1 k1 l0 x3_1 false ((rd_T52 l0 x3_1).f0) ((rd_T52 l0 x3_1).f1) ((rd_T52 l0 x3_1).f2) ((rd_T52 l0 x3_1).f3))) else (spec_l20Good.j1 k1 l0 x3_1 true ((rd_T52 l0 x3_1).f0) ((rd_T52 l0 x3_1).f1) ((rd_T52 l0 x3_1).f2) ((rd_T52 l0 x3_1).f3)))) else (spec_l20Good.j1 k1 l0 x3_1 true ((rd_T52 l0 x3_1).f0) ((rd_T52 l0 x3_1).f1) ((rd_T52 l0 x3_1).f2) ((rd_T52 l0 x3_1).f3)))) = some r:=by rw [if_pos rfl] at H;exact H
       clear H
       have H:=H1
       clear H1
       replace H:=Option.bind_eq_some_iff.mp H
       obtain ⟨t324,A90,H⟩ := H
       replace H : (if t324 = true then ((spec_l1In.f ((rd_T52 l0 x3_1).f3) 1 15).bind fun t325 => (if t325 = true then (if x3_1 > 0 then (if 0 ≤ (wrap64 (x3_1 - 1)) then (if (wrap64 (x3_1 - 1)) < (l0.length : Int) then (spec_l20Good.j1 k1 l0 x3_1 (decide (((rd_T52 l0 (wrap64 (x3_1 - 1))).f0) > ((rd_T52 l0 x3_1).f0))) ((rd_T52 l0 x3_1).f0) ((rd_T52 l0 x3_1).f1) ((rd_T52 l0 x3_1).f2) ((rd_T52 l0 x3_1).f3)) else (none)) else (none)) else (spec_l20Good.j1 k1 l0 x3_1 false ((rd_T52 l0 x3_1).f0) ((rd_T52 l0 x3_1).f1) ((rd_T52 l0 x3_1).f2) ((rd_T52 l0 x3_1).f3))) else (spec_l20Good.j1 k1 l0 x3_1 true ((rd_T52 l0 x3_1).f0) ((rd_T52 l0 x3_1).f1) ((rd_T52 l0 x3_1).f2) ((rd_T52 l0 x3_1).f3)))) else (spec_l20Good.j1 k1 l0 x3_1 true ((rd_T52 l0 x3_1).f0) ((rd_T52 l0 x3_1).f1) ((rd_T52 l0 x3_1).f2) ((rd_T52 l0 x3_1).f3))) = some r:=H
       have A9:=Aside0.mk A90
       clear A90
       by_cases c10 : t324 = true
       ·subst c10
        have H1 : ((spec_l1In.f ((rd_T52 l0 x3_1).f3) 1 15).bind fun t325 => (if t325 = true then (if x3_1 > 0 then (if 0 ≤ (wrap64 (x3_1 - 1)) then (if (wrap64 (x3_1 - 1)) < (l0.length : Int) then (spec_l20Good.j1 k1 l0 x3_1 (decide (((rd_T52 l0 (wrap64 (x3_1 - 1))).f0) > ((rd_T52 l0 x3_1).f0))) ((rd_T52 l0 x3_1).f0) ((rd_T52 l0 x3_1).f1) ((rd_T52 l0 x3_1).f2) ((rd_T52 l0 x3_1).f3)) else (none)) else (none)) else (spec_l20Good.j1 k1 l0 x3_1 false ((rd_T52 l0 x3_1).f0) ((rd_T52 l0 x3_1).f1) ((rd_T52 l0 x3_1).f2) ((rd_T52 l0 x3_1).f3))) else (spec_l20Good.j1 k1 l0 x3_1 true ((rd_T52 l0 x3_1).f0) ((rd_T52 l0 x3_1).f1) ((rd_T52 l0 x3_1).f2) ((rd_T52 l0 x3_1).f3)))) = some r:=by rw [if_pos rfl] at H;exact H
        clear H
        have H:=H1
        clear H1
        replace H:=Option.bind_eq_some_iff.mp H
        obtain ⟨t325,A110,H⟩ := H
        replace H : (if t325 = true then (if x3_1 > 0 then (if 0 ≤ (wrap64 (x3_1 - 1)) then (if (wrap64 (x3_1 - 1)) < (l0.length : Int) then (spec_l20Good.j1 k1 l0 x3_1 (decide (((rd_T52 l0 (wrap64 (x3_1 - 1))).f0) > ((rd_T52 l0 x3_1).f0))) ((rd_T52 l0 x3_1).f0) ((rd_T52 l0 x3_1).f1) ((rd_T52 l0 x3_1).f2) ((rd_T52 l0 x3_1).f3)) else (none)) else (none)) else (spec_l20Good.j1 k1 l0 x3_1 false ((rd_T52 l0 x3_1).f0) ((rd_T52 l0 x3_1).f1) ((rd_T52 l0 x3_1).f2) ((rd_T52 l0 x3_1).f3))) else (spec_l20Good.j1 k1 l0 x3_1 true ((rd_T52 l0 x3_1).f0) ((rd_T52 l0 x3_1).f1) ((rd_T52 l0 x3_1).f2) ((rd_T52 l0 x3_1).f3))) = some r:=H
        have A11:=Aside0.mk A110
        clear A110
        by_cases c12 : t325 = true
        ·subst c12
         have H1 : (if x3_1 > 0 then (if 0 ≤ (wrap64 (x3_1 - 1)) then (if (wrap64 (x3_1 - 1)) < (l0.length : Int) then (spec_l20Good.j1 k1 l0 x3_1 (decide (((rd_T52 l0 (wrap64 (x3_1 - 1))).f0) > ((rd_T52 l0 x3_1).f0))) ((rd_T52 l0 x3_1).f0) ((rd_T52 l0 x3_1).f1) ((rd_T52 l0 x3_1).f2) ((rd_T52 l0 x3_1).f3)) else (none)) else (none)) else (spec_l20Good.j1 k1 l0 x3_1 false ((rd_T52 l0 x3_1).f0) ((rd_T52 l0 x3_1).f1) ((rd_T52 l0 x3_1).f2) ((rd_T52 l0 x3_1).f3))) = some r:=by rw [if_pos rfl] at H;exact H
         clear H
         have H:=H1
         clear H1
         by_cases c13 : x3_1 > 0
         ·rw [if_pos c13] at H
          have c13b0 : decide (0 < x3_1) = true:=decide_eq_true c13
          clear c13
          (skip)
          obtain ⟨ji14,hji14⟩ : ∃ j_ : Int,(wrap64 (x3_1 - 1)) = j_:=⟨_,rfl⟩
          replace H : (if 0 ≤ (ji14) then (if (ji14) < (l0.length : Int) then (spec_l20Good.j1 k1 l0 x3_1 (decide (((rd_T52 l0 (ji14)).f0) > ((rd_T52 l0 x3_1).f0))) ((rd_T52 l0 x3_1).f0) ((rd_T52 l0 x3_1).f1) ((rd_T52 l0 x3_1).f2) ((rd_T52 l0 x3_1).f3)) else (none)) else (none)) = some r:=by (rw [hji14] at H;exact H)
          (skip)
          (skip)
          (skip)
          have hji14w : (IntKind.i64.wrap (x3_1 - 1)) = ji14:=(i64_w _).trans hji14
          by_cases c15 : 0 ≤ (ji14)
          ·rw [if_pos c15] at H
           have c15b0 : decide (0 ≤ (ji14)) = true:=decide_eq_true c15
           clear c15
           by_cases c16 : (ji14) < (l0.length : Int)
           ·rw [if_pos c16] at H
            have c16b0 : decide ((ji14) < (l0.length : Int)) = true:=decide_eq_true c16
            clear c16
            have H':=Aside0.mk H
            clear H
            try go_wp2
            have n0_ : Aside0 (((((w5.setCell ⟨gb322,0,none⟩ (.int .i64 ((rd_T52 l0 x3_1).f0))).setCell ⟨gb322,1,none⟩ (.string ((rd_T52 l0 x3_1).f1))).setCell ⟨gb322,2,none⟩ (.bool ((rd_T52 l0 x3_1).f2))).setCell ⟨gb322,3,none⟩ (.int .i64 ((rd_T52 l0 x3_1).f3))).heap[gb322]? = some (.cells #[.int .i64 ((rd_T52 l0 x3_1).f0), .string ((rd_T52 l0 x3_1).f1), .bool ((rd_T52 l0 x3_1).f2), .int .i64 ((rd_T52 l0 x3_1).f3)] 52 (0,0))):=⟨by refine blk_put (cs:=#[.int .i64 ((rd_T52 l0 x3_1).f0), .string ((rd_T52 l0 x3_1).f1), .bool ((rd_T52 l0 x3_1).f2), .int .i64 0]) ?_ 3 _ rfl;refine blk_put (cs:=#[.int .i64 ((rd_T52 l0 x3_1).f0), .string ((rd_T52 l0 x3_1).f1), .bool false, .int .i64 0]) ?_ 2 _ rfl;refine blk_put (cs:=#[.int .i64 ((rd_T52 l0 x3_1).f0), .string (⟨#[]⟩ : ByteArray), .bool false, .int .i64 0]) ?_ 1 _ rfl;refine blk_put (cs:=#[.int .i64 0, .string (⟨#[]⟩ : ByteArray), .bool false, .int .i64 0]) ?_ 0 _ rfl;exact BK322.out⟩
            have n1_ : Aside0 (Below w.heap.size w ((((w5.setCell ⟨gb322,0,none⟩ (.int .i64 ((rd_T52 l0 x3_1).f0))).setCell ⟨gb322,1,none⟩ (.string ((rd_T52 l0 x3_1).f1))).setCell ⟨gb322,2,none⟩ (.bool ((rd_T52 l0 x3_1).f2))).setCell ⟨gb322,3,none⟩ (.int .i64 ((rd_T52 l0 x3_1).f3)))):=⟨by repeat ((with_reducible first | exact HB.out | refine below_set ?_ GE322.out))⟩
            (try clear BK322)
            (try clear HB)
            generalize ((((w5.setCell ⟨gb322,0,none⟩ (.int .i64 ((rd_T52 l0 x3_1).f0))).setCell ⟨gb322,1,none⟩ (.string ((rd_T52 l0 x3_1).f1))).setCell ⟨gb322,2,none⟩ (.bool ((rd_T52 l0 x3_1).f2))).setCell ⟨gb322,3,none⟩ (.int .i64 ((rd_T52 l0 x3_1).f3))) = w17 at n0_ n1_ ⊢
            have BK322:=n0_
            have HB:=n1_
            clear n0_ n1_
            have n0_:=Aside0.mk (blk_drew BK322.out)
            have n1_:=Aside0.mk (below_drew1 HB.out)
            clear BK322
            clear HB
            have BK322:=n0_
            have HB:=n1_
            clear n0_ n1_
            have p326 : 0 ≤ ((ji14) : Int):=of_decide_eq_true (by (with_reducible assumption))
            have q326 : (ji14) < (l0.length : Int):=of_decide_eq_true (by (with_reducible assumption))
            obtain ⟨ad326,e326,hx326_0,hx326_1,hx326_2,hx326_3⟩ := at_T52 HR0.out (ji14) p326 q326
            have hw326_3:=hx326_3
            have hw326_2:=hx326_2
            have hw326_1:=hx326_1
            have hw326_0:=hx326_0
            obtain rfl : ad321 = ad326:=(by injection e326)
            replace hx326_0:=(HB.out.cell (World.block_lt_of_cell? w _ hx326_0)).trans hx326_0
            replace hx326_1:=(HB.out.cell (World.block_lt_of_cell? w _ hx326_1)).trans hx326_1
            replace hx326_2:=(HB.out.cell (World.block_lt_of_cell? w _ hx326_2)).trans hx326_2
            replace hx326_3:=(HB.out.cell (World.block_lt_of_cell? w _ hx326_3)).trans hx326_3
            replace p326:=eq_true p326
            replace q326:=eq_true q326
            refine start_ (n:=31) (S:=fun w' => w'.cell? ⟨gb322,0,none⟩ = some (.int .i64 ((rd_T52 l0 x3_1).f0)) ∧ w'.cell? ⟨gb322,1,none⟩ = some (.string ((rd_T52 l0 x3_1).f1)) ∧ w'.cell? ⟨gb322,2,none⟩ = some (.bool ((rd_T52 l0 x3_1).f2)) ∧ w'.cell? ⟨gb322,3,none⟩ = some (.int .i64 ((rd_T52 l0 x3_1).f3)) ∧ w'.cell? (ad321.add (((ji14)).toNat * 4)) = some (.int .i64 ((rd_T52 l0 (ji14)).f0)) ∧ w'.cell? ⟨(ad321.add (((ji14)).toNat * 4)).block,(ad321.add (((ji14)).toNat * 4)).off + 1,none⟩ = some (.string ((rd_T52 l0 (ji14)).f1)) ∧ w'.cell? ⟨(ad321.add (((ji14)).toNat * 4)).block,(ad321.add (((ji14)).toNat * 4)).off + 2,none⟩ = some (.bool ((rd_T52 l0 (ji14)).f2)) ∧ w'.cell? ⟨(ad321.add (((ji14)).toNat * 4)).block,(ad321.add (((ji14)).toNat * 4)).off + 3,none⟩ = some (.int .i64 ((rd_T52 l0 (ji14)).f3))) (ds := []) #[false,false,false,false,false,false,false,false,false,false,false,false,false,false,false,false,false,false,false,false,false,false,false,false,false,false,false,false,false,false,false] (by kernel_rfl) rfl rfl ⟨(blk_cell BK322.out 0).trans rfl,(blk_cell BK322.out 1).trans rfl,(blk_cell BK322.out 2).trans rfl,(blk_cell BK322.out 3).trans rfl,((HB.out.cell (World.block_lt_of_cell? w _ hw326_0)).trans hw326_0),((HB.out.cell (World.block_lt_of_cell? w _ hw326_1)).trans hw326_1),((HB.out.cell (World.block_lt_of_cell? w _ hw326_2)).trans hw326_2),((HB.out.cell (World.block_lt_of_cell? w _ hw326_3)).trans hw326_3)⟩ (fun hHeld => ?_);refine with_tabW spec_l20Good.tab5 spec_l20Good.bits5 (fun HT_ HW_ => ?_)
            generalize w17.drew = w18 at BK322 HB hx326_0 hx326_1 hx326_2 hx326_3 hHeld ⊢
            refine pure_ (i:=0) (N:=some 16) (v:=?_) (a':=?_) #[true,false,false,false,false,false,false,false,false,false,false,false,false,false,false,false,false,false,false,false,false,false,false,false,false,false,false,false,false,false,false] rfl rfl (any_of HT_.out (by kernel_rfl)) (fun _ _ _ h => h) (Or.inl ⟨by rfl, ?_⟩) ?_ ?_
            rotate_left
            ·intro w'
             go_simp
             with_reducible rfl
            rotate_left
            ·simp only [Act.put,sA_,s0_,s1_,i64_w,i32_w]
             rfl
            refine take_ (i:=1) (N:=some 17) (v:=?_) (a':=?_) #[true,true,false,false,false,false,false,false,false,false,false,false,false,false,false,false,false,false,false,false,false,false,false,false,false,false,false,false,false,false,false] rfl rfl (take_ofW HT_.out HW_.out (by kernel_rfl)) (fun _ _ _ h => h) (Or.inl ⟨by rfl, ?_⟩) hHeld ?_ ?_
            rotate_left
            ·rintro w' ⟨s0,s1,s2,s3,s4,s5,s6,s7⟩
             go_simp
             with_reducible rfl
            rotate_left
            ·simp only [Act.put,sA_,s0_,s1_,i64_w,i32_w]
             rfl
            refine one_ (i:=2) (N:=some 18) #[true,true,true,false,false,false,false,false,false,false,false,false,false,false,false,false,false,false,false,false,false,false,false,false,false,false,false,false,false,false,false] rfl rfl (one_of HT_.out (by kernel_rfl)) (by decide) (fun K hK => ?_)
            refine goes_ Try.func46 (by kernel_rfl) rfl #[.int .i64 ((rd_T52 l0 x3_1).f0), .int .i64 0, .int .i64 240] (by rfl) rfl rfl (by (try simp only [List.map_toArray,List.map_cons,List.map_nil]);rfl) ?_
            with_reducible refine (spec_l1In.calls ((rd_T52 l0 x3_1).f0) 0 240 true _ A7.out).mono ?_
            rintro e w' ⟨rfl,⟨nd,rfl⟩⟩
            refine ⟨_,rfl, ?_⟩
            refine hK.out _ _ ⟨(blk_cell BK322.out 0).trans rfl,(blk_cell BK322.out 1).trans rfl,(blk_cell BK322.out 2).trans rfl,(blk_cell BK322.out 3).trans rfl,((HB.out.cell (World.block_lt_of_cell? w _ hw326_0)).trans hw326_0),((HB.out.cell (World.block_lt_of_cell? w _ hw326_1)).trans hw326_1),((HB.out.cell (World.block_lt_of_cell? w _ hw326_2)).trans hw326_2),((HB.out.cell (World.block_lt_of_cell? w _ hw326_3)).trans hw326_3)⟩ (fun hHeld => ?_)
            clear hK K
            refine norm_ (a':=?_) ?_ ?_
            rotate_left
            ·show Act.put _ (some 18) _ = _
             simp only [Act.put,sA_,s0_,s1_,i64_w,i32_w]
             rfl
            refine pure_ (i:=3) (N:=some 19) (v:=?_) (a':=?_) #[true,true,true,true,false,false,false,false,false,false,false,false,false,false,false,false,false,false,false,false,false,false,false,false,false,false,false,false,false,false,false] rfl rfl (any_of HT_.out (by kernel_rfl)) (fun _ _ _ h => h) (Or.inl ⟨by rfl, ?_⟩) ?_ ?_
            rotate_left
            ·intro w'
             go_simp
             with_reducible rfl
            rotate_left
            ·simp only [Act.put,sA_,s0_,s1_,i64_w,i32_w]
             rfl
            refine pure_ (i:=4) (N:=some 20) (v:=?_) (a':=?_) #[true,true,true,true,true,false,false,false,false,false,false,false,false,false,false,false,false,false,false,false,false,false,false,false,false,false,false,false,false,false,false] rfl rfl (any_of HT_.out (by kernel_rfl)) (fun _ _ _ h => h) (Or.inl ⟨by rfl, ?_⟩) ?_ ?_
            rotate_left
            ·intro w'
             go_simp
             with_reducible rfl
            rotate_left
            ·simp only [Act.put,sA_,s0_,s1_,i64_w,i32_w]
             rfl
            refine pure_ (i:=5) (N:=some 21) (v:=?_) (a':=?_) #[true,true,true,true,true,true,false,false,false,false,false,false,false,false,false,false,false,false,false,false,false,false,false,false,false,false,false,false,false,false,false] rfl rfl (any_of HT_.out (by kernel_rfl)) (fun _ _ _ h => h) (Or.inl ⟨by rfl, ?_⟩) ?_ ?_
            rotate_left
            ·intro w'
             go_simp
             with_reducible rfl
            rotate_left
            ·simp only [Act.put,sA_,s0_,s1_,i64_w,i32_w]
             rfl
            refine take_ (i:=6) (N:=some 22) (v:=?_) (a':=?_) #[true,true,true,true,true,true,true,false,false,false,false,false,false,false,false,false,false,false,false,false,false,false,false,false,false,false,false,false,false,false,false] rfl rfl (take_ofW HT_.out HW_.out (by kernel_rfl)) (fun _ _ _ h => h) (Or.inl ⟨by rfl, ?_⟩) hHeld ?_ ?_
            rotate_left
            ·rintro w' ⟨s0,s1,s2,s3,s4,s5,s6,s7⟩
             go_simp
             with_reducible rfl
            rotate_left
            ·simp only [Act.put,sA_,s0_,s1_,i64_w,i32_w]
             rfl
            refine one_ (i:=7) (N:=some 23) #[true,true,true,true,true,true,true,true,false,false,false,false,false,false,false,false,false,false,false,false,false,false,false,false,false,false,false,false,false,false,false] rfl rfl (one_of HT_.out (by kernel_rfl)) (by decide) (fun K hK => ?_)
            refine goes_ Try.func33 (by kernel_rfl) rfl #[.string ((rd_T52 l0 x3_1).f1)] (by rfl) rfl rfl (by (try simp only [List.map_toArray,List.map_cons,List.map_nil]);rfl) ?_
            with_reducible refine (spec_l2Id.calls k1 ((rd_T52 l0 x3_1).f1) true _ A9.out).mono ?_
            rintro e w' ⟨rfl,⟨nd,rfl⟩⟩
            refine ⟨_,rfl, ?_⟩
            refine hK.out _ _ ⟨(blk_cell BK322.out 0).trans rfl,(blk_cell BK322.out 1).trans rfl,(blk_cell BK322.out 2).trans rfl,(blk_cell BK322.out 3).trans rfl,((HB.out.cell (World.block_lt_of_cell? w _ hw326_0)).trans hw326_0),((HB.out.cell (World.block_lt_of_cell? w _ hw326_1)).trans hw326_1),((HB.out.cell (World.block_lt_of_cell? w _ hw326_2)).trans hw326_2),((HB.out.cell (World.block_lt_of_cell? w _ hw326_3)).trans hw326_3)⟩ (fun hHeld => ?_)
            clear hK K
            refine norm_ (a':=?_) ?_ ?_
            rotate_left
            ·show Act.put _ (some 23) _ = _
             simp only [Act.put,sA_,s0_,s1_,i64_w,i32_w]
             rfl
            refine pure_ (i:=8) (N:=some 24) (v:=?_) (a':=?_) #[true,true,true,true,true,true,true,true,true,false,false,false,false,false,false,false,false,false,false,false,false,false,false,false,false,false,false,false,false,false,false] rfl rfl (any_of HT_.out (by kernel_rfl)) (fun _ _ _ h => h) (Or.inl ⟨by rfl, ?_⟩) ?_ ?_
            rotate_left
            ·intro w'
             go_simp
             with_reducible rfl
            rotate_left
            ·simp only [Act.put,sA_,s0_,s1_,i64_w,i32_w]
             rfl
            refine pure_ (i:=9) (N:=some 25) (v:=?_) (a':=?_) #[true,true,true,true,true,true,true,true,true,true,false,false,false,false,false,false,false,false,false,false,false,false,false,false,false,false,false,false,false,false,false] rfl rfl (any_of HT_.out (by kernel_rfl)) (fun _ _ _ h => h) (Or.inl ⟨by rfl, ?_⟩) ?_ ?_
            rotate_left
            ·intro w'
             go_simp
             with_reducible rfl
            rotate_left
            ·simp only [Act.put,sA_,s0_,s1_,i64_w,i32_w]
             rfl
            refine pure_ (i:=10) (N:=some 26) (v:=?_) (a':=?_) #[true,true,true,true,true,true,true,true,true,true,true,false,false,false,false,false,false,false,false,false,false,false,false,false,false,false,false,false,false,false,false] rfl rfl (any_of HT_.out (by kernel_rfl)) (fun _ _ _ h => h) (Or.inl ⟨by rfl, ?_⟩) ?_ ?_
            rotate_left
            ·intro w'
             go_simp
             with_reducible rfl
            rotate_left
            ·simp only [Act.put,sA_,s0_,s1_,i64_w,i32_w]
             rfl
            refine pure_ (i:=11) (N:=some 27) (v:=?_) (a':=?_) #[true,true,true,true,true,true,true,true,true,true,true,true,false,false,false,false,false,false,false,false,false,false,false,false,false,false,false,false,false,false,false] rfl rfl (any_of HT_.out (by kernel_rfl)) (fun _ _ _ h => h) (Or.inl ⟨by rfl, ?_⟩) ?_ ?_
            rotate_left
            ·intro w'
             go_simp
             with_reducible rfl
            rotate_left
            ·simp only [Act.put,sA_,s0_,s1_,i64_w,i32_w]
             rfl
            refine take_ (i:=12) (N:=some 28) (v:=?_) (a':=?_) #[true,true,true,true,true,true,true,true,true,true,true,true,true,false,false,false,false,false,false,false,false,false,false,false,false,false,false,false,false,false,false] rfl rfl (take_ofW HT_.out HW_.out (by kernel_rfl)) (fun _ _ _ h => h) (Or.inl ⟨by rfl, ?_⟩) hHeld ?_ ?_
            rotate_left
            ·rintro w' ⟨s0,s1,s2,s3,s4,s5,s6,s7⟩
             go_simp
             with_reducible rfl
            rotate_left
            ·simp only [Act.put,sA_,s0_,s1_,i64_w,i32_w]
             rfl
            refine one_ (i:=13) (N:=some 29) #[true,true,true,true,true,true,true,true,true,true,true,true,true,true,false,false,false,false,false,false,false,false,false,false,false,false,false,false,false,false,false] rfl rfl (one_of HT_.out (by kernel_rfl)) (by decide) (fun K hK => ?_)
            refine goes_ Try.func46 (by kernel_rfl) rfl #[.int .i64 ((rd_T52 l0 x3_1).f3), .int .i64 1, .int .i64 15] (by rfl) rfl rfl (by (try simp only [List.map_toArray,List.map_cons,List.map_nil]);rfl) ?_
            with_reducible refine (spec_l1In.calls ((rd_T52 l0 x3_1).f3) 1 15 true _ A11.out).mono ?_
            rintro e w' ⟨rfl,⟨nd,rfl⟩⟩
            refine ⟨_,rfl, ?_⟩
            refine hK.out _ _ ⟨(blk_cell BK322.out 0).trans rfl,(blk_cell BK322.out 1).trans rfl,(blk_cell BK322.out 2).trans rfl,(blk_cell BK322.out 3).trans rfl,((HB.out.cell (World.block_lt_of_cell? w _ hw326_0)).trans hw326_0),((HB.out.cell (World.block_lt_of_cell? w _ hw326_1)).trans hw326_1),((HB.out.cell (World.block_lt_of_cell? w _ hw326_2)).trans hw326_2),((HB.out.cell (World.block_lt_of_cell? w _ hw326_3)).trans hw326_3)⟩ (fun hHeld => ?_)
            clear hK K
            refine norm_ (a':=?_) ?_ ?_
            rotate_left
            ·show Act.put _ (some 29) _ = _
             simp only [Act.put,sA_,s0_,s1_,i64_w,i32_w]
             rfl
            refine pure_ (i:=14) (N:=some 30) (v:=?_) (a':=?_) #[true,true,true,true,true,true,true,true,true,true,true,true,true,true,true,false,false,false,false,false,false,false,false,false,false,false,false,false,false,false,false] rfl rfl (any_of HT_.out (by kernel_rfl)) (fun _ _ _ h => h) (Or.inl ⟨by rfl, ?_⟩) ?_ ?_
            rotate_left
            ·intro w'
             go_simp
             with_reducible rfl
            rotate_left
            ·simp only [Act.put,sA_,s0_,s1_,i64_w,i32_w]
             rfl
            refine pure_ (i:=15) (N:=some 31) (v:=?_) (a':=?_) #[true,true,true,true,true,true,true,true,true,true,true,true,true,true,true,true,false,false,false,false,false,false,false,false,false,false,false,false,false,false,false] rfl rfl (any_of HT_.out (by kernel_rfl)) (fun _ _ _ h => h) (Or.inl ⟨by rfl, ?_⟩) ?_ ?_
            rotate_left
            ·intro w'
             go_simp
             with_reducible rfl
            rotate_left
            ·simp only [Act.put,sA_,s0_,s1_,i64_w,i32_w]
             rfl
            refine pure_ (i:=16) (N:=some 32) (v:=?_) (a':=?_) #[true,true,true,true,true,true,true,true,true,true,true,true,true,true,true,true,true,false,false,false,false,false,false,false,false,false,false,false,false,false,false] rfl rfl (any_of HT_.out (by kernel_rfl)) (fun _ _ _ h => h) (Or.inl ⟨by rfl, ?_⟩) ?_ ?_
            rotate_left
            ·intro w'
             go_simp
             with_reducible rfl
            rotate_left
            ·simp only [Act.put,sA_,s0_,s1_,i64_w,i32_w]
             rfl
            refine pure_ (i:=17) (N:=some 33) (v:=?_) (a':=?_) #[true,true,true,true,true,true,true,true,true,true,true,true,true,true,true,true,true,true,false,false,false,false,false,false,false,false,false,false,false,false,false] rfl rfl (any_of HT_.out (by kernel_rfl)) (fun _ _ _ h => h) (Or.inl ⟨by rfl, ?_⟩) ?_ ?_
            rotate_left
            ·intro w'
             go_simp
             with_reducible rfl
            rotate_left
            ·simp only [Act.put,sA_,s0_,s1_,i64_w,i32_w]
             rfl
            refine pure_ (i:=18) (N:=some 34) (v:=?_) (a':=?_) #[true,true,true,true,true,true,true,true,true,true,true,true,true,true,true,true,true,true,true,false,false,false,false,false,false,false,false,false,false,false,false] rfl rfl (any_of HT_.out (by kernel_rfl)) (fun _ _ _ h => h) (Or.inl ⟨by rfl, ?_⟩) ?_ ?_
            rotate_left
            ·intro w'
             go_simp
             with_reducible rfl
            rotate_left
            ·simp only [Act.put,sA_,s0_,s1_,i64_w,i32_w]
             rfl
            refine pure_ (i:=19) (N:=some 35) (v:=?_) (a':=?_) #[true,true,true,true,true,true,true,true,true,true,true,true,true,true,true,true,true,true,true,true,false,false,false,false,false,false,false,false,false,false,false] rfl rfl (any_of HT_.out (by kernel_rfl)) (fun _ _ _ h => h) (Or.inl ⟨by rfl, ?_⟩) ?_ ?_
            rotate_left
            ·intro w'
             go_simp
             with_reducible rfl
            rotate_left
            ·simp only [Act.put,sA_,s0_,s1_,i64_w,i32_w]
             rfl
            refine pure_ (i:=20) (N:=some 36) (v:=?_) (a':=?_) #[true,true,true,true,true,true,true,true,true,true,true,true,true,true,true,true,true,true,true,true,true,false,false,false,false,false,false,false,false,false,false] rfl rfl (any_of HT_.out (by kernel_rfl)) (fun _ _ _ h => h) (Or.inl ⟨by rfl, ?_⟩) ?_ ?_
            rotate_left
            ·intro w'
             go_simp
             with_reducible rfl
            rotate_left
            ·simp only [Act.put,sA_,s0_,s1_,i64_w,i32_w]
             rfl
            refine pure_ (i:=21) (N:=some 37) (v:=?_) (a':=?_) #[true,true,true,true,true,true,true,true,true,true,true,true,true,true,true,true,true,true,true,true,true,true,false,false,false,false,false,false,false,false,false] rfl rfl (any_of HT_.out (by kernel_rfl)) (fun _ _ _ h => h) (Or.inl ⟨by rfl, ?_⟩) ?_ ?_
            rotate_left
            ·intro w'
             go_simp
             with_reducible rfl
            rotate_left
            ·simp only [Act.put,sA_,s0_,s1_,i64_w,i32_w]
             rfl
            refine pure_ (i:=22) (N:=some 38) (v:=?_) (a':=?_) #[true,true,true,true,true,true,true,true,true,true,true,true,true,true,true,true,true,true,true,true,true,true,true,false,false,false,false,false,false,false,false] rfl rfl (any_of HT_.out (by kernel_rfl)) (fun _ _ _ h => h) (Or.inl ⟨by rfl, ?_⟩) ?_ ?_
            rotate_left
            ·intro w'
             go_simp
             with_reducible rfl
            rotate_left
            ·simp only [Act.put,sA_,s0_,s1_,i64_w,i32_w]
             rfl
            refine pure_ (i:=23) (N:=some 39) (v:=?_) (a':=?_) #[true,true,true,true,true,true,true,true,true,true,true,true,true,true,true,true,true,true,true,true,true,true,true,true,false,false,false,false,false,false,false] rfl rfl (any_of HT_.out (by kernel_rfl)) (fun _ _ _ h => h) (Or.inl ⟨by rfl, ?_⟩) ?_ ?_
            rotate_left
            ·intro w'
             go_simp
             with_reducible rfl
            rotate_left
            ·simp only [Act.put,sA_,s0_,s1_,i64_w,i32_w]
             rfl
            refine pure_ (i:=24) (N:=some 40) (v:=?_) (a':=?_) #[true,true,true,true,true,true,true,true,true,true,true,true,true,true,true,true,true,true,true,true,true,true,true,true,true,false,false,false,false,false,false] rfl rfl (any_of HT_.out (by kernel_rfl)) (fun _ _ _ h => h) (Or.inl ⟨by rfl, ?_⟩) ?_ ?_
            rotate_left
            ·intro w'
             go_simp
             with_reducible rfl
            rotate_left
            ·simp only [Act.put,sA_,s0_,s1_,i64_w,i32_w]
             rfl
            refine pure_ (i:=26) (N:=some 42) (v:=?_) (a':=?_) #[true,true,true,true,true,true,true,true,true,true,true,true,true,true,true,true,true,true,true,true,true,true,true,true,true,false,true,false,false,false,false] rfl rfl (any_of HT_.out (by kernel_rfl)) (fun _ _ _ h => h) (Or.inl ⟨by rfl, ?_⟩) ?_ ?_
            rotate_left
            ·intro w'
             go_simp
             with_reducible rfl
            rotate_left
            ·simp only [Act.put,sA_,s0_,s1_,i64_w,i32_w]
             rfl
            refine take_ (i:=25) (N:=some 41) (v:=?_) (a':=?_) #[true,true,true,true,true,true,true,true,true,true,true,true,true,true,true,true,true,true,true,true,true,true,true,true,true,true,true,false,false,false,false] rfl rfl (take_ofW HT_.out HW_.out (by kernel_rfl)) (fun _ _ _ h => h) (Or.inl ⟨by rfl, ?_⟩) hHeld ?_ ?_
            rotate_left
            ·rintro w' ⟨s0,s1,s2,s3,s4,s5,s6,s7⟩
             go_simp
             with_reducible rfl
            rotate_left
            ·simp only [Act.put,sA_,s0_,s1_,i64_w,i32_w]
             rfl
            refine take_ (i:=27) (N:=some 43) (v:=?_) (a':=?_) #[true,true,true,true,true,true,true,true,true,true,true,true,true,true,true,true,true,true,true,true,true,true,true,true,true,true,true,true,false,false,false] rfl rfl (take_ofW HT_.out HW_.out (by kernel_rfl)) (fun _ _ _ h => h) (Or.inl ⟨by rfl, ?_⟩) hHeld ?_ ?_
            rotate_left
            ·rintro w' ⟨s0,s1,s2,s3,s4,s5,s6,s7⟩
             go_simp
             with_reducible rfl
            rotate_left
            ·simp only [Act.put,sA_,s0_,s1_,i64_w,i32_w]
             rfl
            refine pure_ (i:=28) (N:=some 44) (v:=?_) (a':=?_) #[true,true,true,true,true,true,true,true,true,true,true,true,true,true,true,true,true,true,true,true,true,true,true,true,true,true,true,true,true,false,false] rfl rfl (any_of HT_.out (by kernel_rfl)) (fun _ _ _ h => h) (Or.inl ⟨by rfl, ?_⟩) ?_ ?_
            rotate_left
            ·intro w'
             go_simp
             with_reducible rfl
            rotate_left
            ·simp only [Act.put,sA_,s0_,s1_,i64_w,i32_w]
             rfl
            refine pure_ (i:=29) (N:=some 45) (v:=?_) (a':=?_) #[true,true,true,true,true,true,true,true,true,true,true,true,true,true,true,true,true,true,true,true,true,true,true,true,true,true,true,true,true,true,false] rfl rfl (any_of HT_.out (by kernel_rfl)) (fun _ _ _ h => h) (Or.inl ⟨by rfl, ?_⟩) ?_ ?_
            rotate_left
            ·intro w'
             go_simp
             with_reducible rfl
            rotate_left
            ·simp only [Act.put,sA_,s0_,s1_,i64_w,i32_w]
             rfl
            refine pure_ (i:=30) (N:=some 46) (v:=?_) (a':=?_) #[true,true,true,true,true,true,true,true,true,true,true,true,true,true,true,true,true,true,true,true,true,true,true,true,true,true,true,true,true,true,true] rfl rfl (any_of HT_.out (by kernel_rfl)) (fun _ _ _ h => h) (Or.inl ⟨by rfl, ?_⟩) ?_ ?_
            rotate_left
            ·intro w'
             go_simp
             with_reducible rfl
            rotate_left
            ·simp only [Act.put,sA_,s0_,s1_,i64_w,i32_w]
             rfl
            refine done_ (done_of HT_.out (by kernel_rfl)) ?_
            try go_wp2
            go_meet
            case rel => exact ⟨_,(decide (((rd_T52 l0 (ji14)).f0) > ((rd_T52 l0 x3_1).f0))),(by rfl),H',⟨by have:=HK1.out;omega⟩,⟨by (with_reducible repeat (refine blk_drewN ?_ _));exact BK322.out⟩,⟨by repeat ((with_reducible first | exact HB.out | apply pw_below_drewN))⟩⟩
           ·rw [if_neg c16] at H
            exact absurd H (by simp)
          ·rw [if_neg c15] at H
           exact absurd H (by simp)
         ·rw [if_neg c13] at H
          have c13b0 : decide (0 < x3_1) = false:=decide_eq_false c13
          clear c13
          (skip)
          have H':=Aside0.mk H
          clear H
          try go_wp2
          have n0_ : Aside0 (((((w5.setCell ⟨gb322,0,none⟩ (.int .i64 ((rd_T52 l0 x3_1).f0))).setCell ⟨gb322,1,none⟩ (.string ((rd_T52 l0 x3_1).f1))).setCell ⟨gb322,2,none⟩ (.bool ((rd_T52 l0 x3_1).f2))).setCell ⟨gb322,3,none⟩ (.int .i64 ((rd_T52 l0 x3_1).f3))).heap[gb322]? = some (.cells #[.int .i64 ((rd_T52 l0 x3_1).f0), .string ((rd_T52 l0 x3_1).f1), .bool ((rd_T52 l0 x3_1).f2), .int .i64 ((rd_T52 l0 x3_1).f3)] 52 (0,0))):=⟨by refine blk_put (cs:=#[.int .i64 ((rd_T52 l0 x3_1).f0), .string ((rd_T52 l0 x3_1).f1), .bool ((rd_T52 l0 x3_1).f2), .int .i64 0]) ?_ 3 _ rfl;refine blk_put (cs:=#[.int .i64 ((rd_T52 l0 x3_1).f0), .string ((rd_T52 l0 x3_1).f1), .bool false, .int .i64 0]) ?_ 2 _ rfl;refine blk_put (cs:=#[.int .i64 ((rd_T52 l0 x3_1).f0), .string (⟨#[]⟩ : ByteArray), .bool false, .int .i64 0]) ?_ 1 _ rfl;refine blk_put (cs:=#[.int .i64 0, .string (⟨#[]⟩ : ByteArray), .bool false, .int .i64 0]) ?_ 0 _ rfl;exact BK322.out⟩
          have n1_ : Aside0 (Below w.heap.size w ((((w5.setCell ⟨gb322,0,none⟩ (.int .i64 ((rd_T52 l0 x3_1).f0))).setCell ⟨gb322,1,none⟩ (.string ((rd_T52 l0 x3_1).f1))).setCell ⟨gb322,2,none⟩ (.bool ((rd_T52 l0 x3_1).f2))).setCell ⟨gb322,3,none⟩ (.int .i64 ((rd_T52 l0 x3_1).f3)))):=⟨by repeat ((with_reducible first | exact HB.out | refine below_set ?_ GE322.out))⟩
          (try clear BK322)
          (try clear HB)
          generalize ((((w5.setCell ⟨gb322,0,none⟩ (.int .i64 ((rd_T52 l0 x3_1).f0))).setCell ⟨gb322,1,none⟩ (.string ((rd_T52 l0 x3_1).f1))).setCell ⟨gb322,2,none⟩ (.bool ((rd_T52 l0 x3_1).f2))).setCell ⟨gb322,3,none⟩ (.int .i64 ((rd_T52 l0 x3_1).f3))) = w19 at n0_ n1_ ⊢
          have BK322:=n0_
          have HB:=n1_
          clear n0_ n1_
          have n0_:=Aside0.mk (blk_drew BK322.out)
          have n1_:=Aside0.mk (below_drew1 HB.out)
          clear BK322
          clear HB
          have BK322:=n0_
          have HB:=n1_
          clear n0_ n1_
          refine start_ (n:=31) (S:=fun w' => w'.cell? ⟨gb322,0,none⟩ = some (.int .i64 ((rd_T52 l0 x3_1).f0)) ∧ w'.cell? ⟨gb322,1,none⟩ = some (.string ((rd_T52 l0 x3_1).f1)) ∧ w'.cell? ⟨gb322,2,none⟩ = some (.bool ((rd_T52 l0 x3_1).f2)) ∧ w'.cell? ⟨gb322,3,none⟩ = some (.int .i64 ((rd_T52 l0 x3_1).f3))) (ds := []) #[false,false,false,false,false,false,false,false,false,false,false,false,false,false,false,false,false,false,false,false,false,false,false,false,false,false,false,false,false,false,false] (by kernel_rfl) rfl rfl ⟨(blk_cell BK322.out 0).trans rfl,(blk_cell BK322.out 1).trans rfl,(blk_cell BK322.out 2).trans rfl,(blk_cell BK322.out 3).trans rfl⟩ (fun hHeld => ?_);refine with_tabW spec_l20Good.tab5 spec_l20Good.bits5 (fun HT_ HW_ => ?_)
          generalize w19.drew = w20 at BK322 HB hHeld ⊢
          refine pure_ (i:=0) (N:=some 16) (v:=?_) (a':=?_) #[true,false,false,false,false,false,false,false,false,false,false,false,false,false,false,false,false,false,false,false,false,false,false,false,false,false,false,false,false,false,false] rfl rfl (any_of HT_.out (by kernel_rfl)) (fun _ _ _ h => h) (Or.inl ⟨by rfl, ?_⟩) ?_ ?_
          rotate_left
          ·intro w'
           go_simp
           with_reducible rfl
          rotate_left
          ·simp only [Act.put,sA_,s0_,s1_,i64_w,i32_w]
           rfl
          refine take_ (i:=1) (N:=some 17) (v:=?_) (a':=?_) #[true,true,false,false,false,false,false,false,false,false,false,false,false,false,false,false,false,false,false,false,false,false,false,false,false,false,false,false,false,false,false] rfl rfl (take_ofW HT_.out HW_.out (by kernel_rfl)) (fun _ _ _ h => h) (Or.inl ⟨by rfl, ?_⟩) hHeld ?_ ?_
          rotate_left
          ·rintro w' ⟨s0,s1,s2,s3⟩
           go_simp
           with_reducible rfl
          rotate_left
          ·simp only [Act.put,sA_,s0_,s1_,i64_w,i32_w]
           rfl
          refine one_ (i:=2) (N:=some 18) #[true,true,true,false,false,false,false,false,false,false,false,false,false,false,false,false,false,false,false,false,false,false,false,false,false,false,false,false,false,false,false] rfl rfl (one_of HT_.out (by kernel_rfl)) (by decide) (fun K hK => ?_)
          refine goes_ Try.func46 (by kernel_rfl) rfl #[.int .i64 ((rd_T52 l0 x3_1).f0), .int .i64 0, .int .i64 240] (by rfl) rfl rfl (by (try simp only [List.map_toArray,List.map_cons,List.map_nil]);rfl) ?_
          with_reducible refine (spec_l1In.calls ((rd_T52 l0 x3_1).f0) 0 240 true _ A7.out).mono ?_
          rintro e w' ⟨rfl,⟨nd,rfl⟩⟩
          refine ⟨_,rfl, ?_⟩
          refine hK.out _ _ ⟨(blk_cell BK322.out 0).trans rfl,(blk_cell BK322.out 1).trans rfl,(blk_cell BK322.out 2).trans rfl,(blk_cell BK322.out 3).trans rfl⟩ (fun hHeld => ?_)
          clear hK K
          refine norm_ (a':=?_) ?_ ?_
          rotate_left
          ·show Act.put _ (some 18) _ = _
           simp only [Act.put,sA_,s0_,s1_,i64_w,i32_w]
           rfl
          refine pure_ (i:=3) (N:=some 19) (v:=?_) (a':=?_) #[true,true,true,true,false,false,false,false,false,false,false,false,false,false,false,false,false,false,false,false,false,false,false,false,false,false,false,false,false,false,false] rfl rfl (any_of HT_.out (by kernel_rfl)) (fun _ _ _ h => h) (Or.inl ⟨by rfl, ?_⟩) ?_ ?_
          rotate_left
          ·intro w'
           go_simp
           with_reducible rfl
          rotate_left
          ·simp only [Act.put,sA_,s0_,s1_,i64_w,i32_w]
           rfl
          refine pure_ (i:=4) (N:=some 20) (v:=?_) (a':=?_) #[true,true,true,true,true,false,false,false,false,false,false,false,false,false,false,false,false,false,false,false,false,false,false,false,false,false,false,false,false,false,false] rfl rfl (any_of HT_.out (by kernel_rfl)) (fun _ _ _ h => h) (Or.inl ⟨by rfl, ?_⟩) ?_ ?_
          rotate_left
          ·intro w'
           go_simp
           with_reducible rfl
          rotate_left
          ·simp only [Act.put,sA_,s0_,s1_,i64_w,i32_w]
           rfl
          refine pure_ (i:=5) (N:=some 21) (v:=?_) (a':=?_) #[true,true,true,true,true,true,false,false,false,false,false,false,false,false,false,false,false,false,false,false,false,false,false,false,false,false,false,false,false,false,false] rfl rfl (any_of HT_.out (by kernel_rfl)) (fun _ _ _ h => h) (Or.inl ⟨by rfl, ?_⟩) ?_ ?_
          rotate_left
          ·intro w'
           go_simp
           with_reducible rfl
          rotate_left
          ·simp only [Act.put,sA_,s0_,s1_,i64_w,i32_w]
           rfl
          refine take_ (i:=6) (N:=some 22) (v:=?_) (a':=?_) #[true,true,true,true,true,true,true,false,false,false,false,false,false,false,false,false,false,false,false,false,false,false,false,false,false,false,false,false,false,false,false] rfl rfl (take_ofW HT_.out HW_.out (by kernel_rfl)) (fun _ _ _ h => h) (Or.inl ⟨by rfl, ?_⟩) hHeld ?_ ?_
          rotate_left
          ·rintro w' ⟨s0,s1,s2,s3⟩
           go_simp
           with_reducible rfl
          rotate_left
          ·simp only [Act.put,sA_,s0_,s1_,i64_w,i32_w]
           rfl
          refine one_ (i:=7) (N:=some 23) #[true,true,true,true,true,true,true,true,false,false,false,false,false,false,false,false,false,false,false,false,false,false,false,false,false,false,false,false,false,false,false] rfl rfl (one_of HT_.out (by kernel_rfl)) (by decide) (fun K hK => ?_)
          refine goes_ Try.func33 (by kernel_rfl) rfl #[.string ((rd_T52 l0 x3_1).f1)] (by rfl) rfl rfl (by (try simp only [List.map_toArray,List.map_cons,List.map_nil]);rfl) ?_
          with_reducible refine (spec_l2Id.calls k1 ((rd_T52 l0 x3_1).f1) true _ A9.out).mono ?_
          rintro e w' ⟨rfl,⟨nd,rfl⟩⟩
          refine ⟨_,rfl, ?_⟩
          refine hK.out _ _ ⟨(blk_cell BK322.out 0).trans rfl,(blk_cell BK322.out 1).trans rfl,(blk_cell BK322.out 2).trans rfl,(blk_cell BK322.out 3).trans rfl⟩ (fun hHeld => ?_)
          clear hK K
          refine norm_ (a':=?_) ?_ ?_
          rotate_left
          ·show Act.put _ (some 23) _ = _
           simp only [Act.put,sA_,s0_,s1_,i64_w,i32_w]
           rfl
          refine pure_ (i:=8) (N:=some 24) (v:=?_) (a':=?_) #[true,true,true,true,true,true,true,true,true,false,false,false,false,false,false,false,false,false,false,false,false,false,false,false,false,false,false,false,false,false,false] rfl rfl (any_of HT_.out (by kernel_rfl)) (fun _ _ _ h => h) (Or.inl ⟨by rfl, ?_⟩) ?_ ?_
          rotate_left
          ·intro w'
           go_simp
           with_reducible rfl
          rotate_left
          ·simp only [Act.put,sA_,s0_,s1_,i64_w,i32_w]
           rfl
          refine pure_ (i:=9) (N:=some 25) (v:=?_) (a':=?_) #[true,true,true,true,true,true,true,true,true,true,false,false,false,false,false,false,false,false,false,false,false,false,false,false,false,false,false,false,false,false,false] rfl rfl (any_of HT_.out (by kernel_rfl)) (fun _ _ _ h => h) (Or.inl ⟨by rfl, ?_⟩) ?_ ?_
          rotate_left
          ·intro w'
           go_simp
           with_reducible rfl
          rotate_left
          ·simp only [Act.put,sA_,s0_,s1_,i64_w,i32_w]
           rfl
          refine pure_ (i:=10) (N:=some 26) (v:=?_) (a':=?_) #[true,true,true,true,true,true,true,true,true,true,true,false,false,false,false,false,false,false,false,false,false,false,false,false,false,false,false,false,false,false,false] rfl rfl (any_of HT_.out (by kernel_rfl)) (fun _ _ _ h => h) (Or.inl ⟨by rfl, ?_⟩) ?_ ?_
          rotate_left
          ·intro w'
           go_simp
           with_reducible rfl
          rotate_left
          ·simp only [Act.put,sA_,s0_,s1_,i64_w,i32_w]
           rfl
          refine pure_ (i:=11) (N:=some 27) (v:=?_) (a':=?_) #[true,true,true,true,true,true,true,true,true,true,true,true,false,false,false,false,false,false,false,false,false,false,false,false,false,false,false,false,false,false,false] rfl rfl (any_of HT_.out (by kernel_rfl)) (fun _ _ _ h => h) (Or.inl ⟨by rfl, ?_⟩) ?_ ?_
          rotate_left
          ·intro w'
           go_simp
           with_reducible rfl
          rotate_left
          ·simp only [Act.put,sA_,s0_,s1_,i64_w,i32_w]
           rfl
          refine take_ (i:=12) (N:=some 28) (v:=?_) (a':=?_) #[true,true,true,true,true,true,true,true,true,true,true,true,true,false,false,false,false,false,false,false,false,false,false,false,false,false,false,false,false,false,false] rfl rfl (take_ofW HT_.out HW_.out (by kernel_rfl)) (fun _ _ _ h => h) (Or.inl ⟨by rfl, ?_⟩) hHeld ?_ ?_
          rotate_left
          ·rintro w' ⟨s0,s1,s2,s3⟩
           go_simp
           with_reducible rfl
          rotate_left
          ·simp only [Act.put,sA_,s0_,s1_,i64_w,i32_w]
           rfl
          refine one_ (i:=13) (N:=some 29) #[true,true,true,true,true,true,true,true,true,true,true,true,true,true,false,false,false,false,false,false,false,false,false,false,false,false,false,false,false,false,false] rfl rfl (one_of HT_.out (by kernel_rfl)) (by decide) (fun K hK => ?_)
          refine goes_ Try.func46 (by kernel_rfl) rfl #[.int .i64 ((rd_T52 l0 x3_1).f3), .int .i64 1, .int .i64 15] (by rfl) rfl rfl (by (try simp only [List.map_toArray,List.map_cons,List.map_nil]);rfl) ?_
          with_reducible refine (spec_l1In.calls ((rd_T52 l0 x3_1).f3) 1 15 true _ A11.out).mono ?_
          rintro e w' ⟨rfl,⟨nd,rfl⟩⟩
          refine ⟨_,rfl, ?_⟩
          refine hK.out _ _ ⟨(blk_cell BK322.out 0).trans rfl,(blk_cell BK322.out 1).trans rfl,(blk_cell BK322.out 2).trans rfl,(blk_cell BK322.out 3).trans rfl⟩ (fun hHeld => ?_)
          clear hK K
          refine norm_ (a':=?_) ?_ ?_
          rotate_left
          ·show Act.put _ (some 29) _ = _
           simp only [Act.put,sA_,s0_,s1_,i64_w,i32_w]
           rfl
          refine pure_ (i:=14) (N:=some 30) (v:=?_) (a':=?_) #[true,true,true,true,true,true,true,true,true,true,true,true,true,true,true,false,false,false,false,false,false,false,false,false,false,false,false,false,false,false,false] rfl rfl (any_of HT_.out (by kernel_rfl)) (fun _ _ _ h => h) (Or.inl ⟨by rfl, ?_⟩) ?_ ?_
          rotate_left
          ·intro w'
           go_simp
           with_reducible rfl
          rotate_left
          ·simp only [Act.put,sA_,s0_,s1_,i64_w,i32_w]
           rfl
          refine pure_ (i:=15) (N:=some 31) (v:=?_) (a':=?_) #[true,true,true,true,true,true,true,true,true,true,true,true,true,true,true,true,false,false,false,false,false,false,false,false,false,false,false,false,false,false,false] rfl rfl (any_of HT_.out (by kernel_rfl)) (fun _ _ _ h => h) (Or.inl ⟨by rfl, ?_⟩) ?_ ?_
          rotate_left
          ·intro w'
           go_simp
           with_reducible rfl
          rotate_left
          ·simp only [Act.put,sA_,s0_,s1_,i64_w,i32_w]
           rfl
          refine pure_ (i:=16) (N:=some 32) (v:=?_) (a':=?_) #[true,true,true,true,true,true,true,true,true,true,true,true,true,true,true,true,true,false,false,false,false,false,false,false,false,false,false,false,false,false,false] rfl rfl (any_of HT_.out (by kernel_rfl)) (fun _ _ _ h => h) (Or.inl ⟨by rfl, ?_⟩) ?_ ?_
          rotate_left
          ·intro w'
           go_simp
           with_reducible rfl
          rotate_left
          ·simp only [Act.put,sA_,s0_,s1_,i64_w,i32_w]
           rfl
          refine pure_ (i:=17) (N:=some 33) (v:=?_) (a':=?_) #[true,true,true,true,true,true,true,true,true,true,true,true,true,true,true,true,true,true,false,false,false,false,false,false,false,false,false,false,false,false,false] rfl rfl (any_of HT_.out (by kernel_rfl)) (fun _ _ _ h => h) (Or.inl ⟨by rfl, ?_⟩) ?_ ?_
          rotate_left
          ·intro w'
           go_simp
           with_reducible rfl
          rotate_left
          ·simp only [Act.put,sA_,s0_,s1_,i64_w,i32_w]
           rfl
          refine pure_ (i:=18) (N:=some 34) (v:=?_) (a':=?_) #[true,true,true,true,true,true,true,true,true,true,true,true,true,true,true,true,true,true,true,false,false,false,false,false,false,false,false,false,false,false,false] rfl rfl (any_of HT_.out (by kernel_rfl)) (fun _ _ _ h => h) (Or.inl ⟨by rfl, ?_⟩) ?_ ?_
          rotate_left
          ·intro w'
           go_simp
           with_reducible rfl
          rotate_left
          ·simp only [Act.put,sA_,s0_,s1_,i64_w,i32_w]
           rfl
          refine pure_ (i:=19) (N:=some 35) (v:=?_) (a':=?_) #[true,true,true,true,true,true,true,true,true,true,true,true,true,true,true,true,true,true,true,true,false,false,false,false,false,false,false,false,false,false,false] rfl rfl (any_of HT_.out (by kernel_rfl)) (fun _ _ _ h => h) (Or.inl ⟨by rfl, ?_⟩) ?_ ?_
          rotate_left
          ·intro w'
           go_simp
           with_reducible rfl
          rotate_left
          ·simp only [Act.put,sA_,s0_,s1_,i64_w,i32_w]
           rfl
          refine pure_ (i:=20) (N:=some 36) (v:=undef) (a':=?_) #[true,true,true,true,true,true,true,true,true,true,true,true,true,true,true,true,true,true,true,true,true,false,false,false,false,false,false,false,false,false,false] rfl rfl (any_of HT_.out (by kernel_rfl)) (fun _ _ _ h => h) (Or.inr ⟨by rfl,rfl⟩) ?_ ?_
          rotate_left
          ·simp only [Act.put,sA_,s0_,s1_,i64_w,i32_w]
           rfl
          refine pure_ (i:=21) (N:=some 37) (v:=undef) (a':=?_) #[true,true,true,true,true,true,true,true,true,true,true,true,true,true,true,true,true,true,true,true,true,true,false,false,false,false,false,false,false,false,false] rfl rfl (any_of HT_.out (by kernel_rfl)) (fun _ _ _ h => h) (Or.inr ⟨by rfl,rfl⟩) ?_ ?_
          rotate_left
          ·simp only [Act.put,sA_,s0_,s1_,i64_w,i32_w]
           rfl
          refine pure_ (i:=22) (N:=some 38) (v:=undef) (a':=?_) #[true,true,true,true,true,true,true,true,true,true,true,true,true,true,true,true,true,true,true,true,true,true,true,false,false,false,false,false,false,false,false] rfl rfl (any_of HT_.out (by kernel_rfl)) (fun _ _ _ h => h) (Or.inr ⟨by rfl,rfl⟩) ?_ ?_
          rotate_left
          ·simp only [Act.put,sA_,s0_,s1_,i64_w,i32_w]
           rfl
          refine pure_ (i:=23) (N:=some 39) (v:=undef) (a':=?_) #[true,true,true,true,true,true,true,true,true,true,true,true,true,true,true,true,true,true,true,true,true,true,true,true,false,false,false,false,false,false,false] rfl rfl (any_of HT_.out (by kernel_rfl)) (fun _ _ _ h => h) (Or.inr ⟨by rfl,rfl⟩) ?_ ?_
          rotate_left
          ·simp only [Act.put,sA_,s0_,s1_,i64_w,i32_w]
           rfl
          refine pure_ (i:=24) (N:=some 40) (v:=undef) (a':=?_) #[true,true,true,true,true,true,true,true,true,true,true,true,true,true,true,true,true,true,true,true,true,true,true,true,true,false,false,false,false,false,false] rfl rfl (any_of HT_.out (by kernel_rfl)) (fun _ _ _ h => h) (Or.inr ⟨by rfl,rfl⟩) ?_ ?_
          rotate_left
          ·simp only [Act.put,sA_,s0_,s1_,i64_w,i32_w]
           rfl
          refine pure_ (i:=25) (N:=some 41) (v:=undef) (a':=?_) #[true,true,true,true,true,true,true,true,true,true,true,true,true,true,true,true,true,true,true,true,true,true,true,true,true,true,false,false,false,false,false] rfl rfl (any_of HT_.out (by kernel_rfl)) (fun _ _ _ h => h) (Or.inr ⟨by rfl,rfl⟩) ?_ ?_
          rotate_left
          ·simp only [Act.put,sA_,s0_,s1_,i64_w,i32_w]
           rfl
          refine pure_ (i:=26) (N:=some 42) (v:=undef) (a':=?_) #[true,true,true,true,true,true,true,true,true,true,true,true,true,true,true,true,true,true,true,true,true,true,true,true,true,true,true,false,false,false,false] rfl rfl (any_of HT_.out (by kernel_rfl)) (fun _ _ _ h => h) (Or.inr ⟨by rfl,rfl⟩) ?_ ?_
          rotate_left
          ·simp only [Act.put,sA_,s0_,s1_,i64_w,i32_w]
           rfl
          refine pure_ (i:=27) (N:=some 43) (v:=undef) (a':=?_) #[true,true,true,true,true,true,true,true,true,true,true,true,true,true,true,true,true,true,true,true,true,true,true,true,true,true,true,true,false,false,false] rfl rfl (any_of HT_.out (by kernel_rfl)) (fun _ _ _ h => h) (Or.inr ⟨by rfl,rfl⟩) ?_ ?_
          rotate_left
          ·simp only [Act.put,sA_,s0_,s1_,i64_w,i32_w]
           rfl
          refine pure_ (i:=28) (N:=some 44) (v:=undef) (a':=?_) #[true,true,true,true,true,true,true,true,true,true,true,true,true,true,true,true,true,true,true,true,true,true,true,true,true,true,true,true,true,false,false] rfl rfl (any_of HT_.out (by kernel_rfl)) (fun _ _ _ h => h) (Or.inr ⟨by rfl,rfl⟩) ?_ ?_
          rotate_left
          ·simp only [Act.put,sA_,s0_,s1_,i64_w,i32_w]
           rfl
          refine pure_ (i:=29) (N:=some 45) (v:=?_) (a':=?_) #[true,true,true,true,true,true,true,true,true,true,true,true,true,true,true,true,true,true,true,true,true,true,true,true,true,true,true,true,true,true,false] rfl rfl (any_of HT_.out (by kernel_rfl)) (fun _ _ _ h => h) (Or.inl ⟨by rfl, ?_⟩) ?_ ?_
          rotate_left
          ·intro w'
           go_simp
           with_reducible rfl
          rotate_left
          ·simp only [Act.put,sA_,s0_,s1_,i64_w,i32_w]
           rfl
          refine pure_ (i:=30) (N:=some 46) (v:=?_) (a':=?_) #[true,true,true,true,true,true,true,true,true,true,true,true,true,true,true,true,true,true,true,true,true,true,true,true,true,true,true,true,true,true,true] rfl rfl (any_of HT_.out (by kernel_rfl)) (fun _ _ _ h => h) (Or.inl ⟨by rfl, ?_⟩) ?_ ?_
          rotate_left
          ·intro w'
           go_simp
           with_reducible rfl
          rotate_left
          ·simp only [Act.put,sA_,s0_,s1_,i64_w,i32_w]
           rfl
          refine done_ (done_of HT_.out (by kernel_rfl)) ?_
          try go_wp2
          go_meet
          case rel => exact ⟨_,(false),(by rfl),H',⟨by have:=HK1.out;omega⟩,⟨by (with_reducible repeat (refine blk_drewN ?_ _));exact BK322.out⟩,⟨by repeat ((with_reducible first | exact HB.out | apply pw_below_drewN))⟩⟩
        ·replace c12:=Bool.eq_false_iff.mpr c12
         subst c12
         have H1 : (spec_l20Good.j1 k1 l0 x3_1 true ((rd_T52 l0 x3_1).f0) ((rd_T52 l0 x3_1).f1) ((rd_T52 l0 x3_1).f2) ((rd_T52 l0 x3_1).f3)) = some r:=by rw [if_neg (show ¬ (false = true) by decide)] at H;exact H
         clear H
         have H:=H1
         clear H1
         have H':=Aside0.mk H
         clear H
         try go_wp2
         have n0_ : Aside0 (((((w5.setCell ⟨gb322,0,none⟩ (.int .i64 ((rd_T52 l0 x3_1).f0))).setCell ⟨gb322,1,none⟩ (.string ((rd_T52 l0 x3_1).f1))).setCell ⟨gb322,2,none⟩ (.bool ((rd_T52 l0 x3_1).f2))).setCell ⟨gb322,3,none⟩ (.int .i64 ((rd_T52 l0 x3_1).f3))).heap[gb322]? = some (.cells #[.int .i64 ((rd_T52 l0 x3_1).f0), .string ((rd_T52 l0 x3_1).f1), .bool ((rd_T52 l0 x3_1).f2), .int .i64 ((rd_T52 l0 x3_1).f3)] 52 (0,0))):=⟨by refine blk_put (cs:=#[.int .i64 ((rd_T52 l0 x3_1).f0), .string ((rd_T52 l0 x3_1).f1), .bool ((rd_T52 l0 x3_1).f2), .int .i64 0]) ?_ 3 _ rfl;refine blk_put (cs:=#[.int .i64 ((rd_T52 l0 x3_1).f0), .string ((rd_T52 l0 x3_1).f1), .bool false, .int .i64 0]) ?_ 2 _ rfl;refine blk_put (cs:=#[.int .i64 ((rd_T52 l0 x3_1).f0), .string (⟨#[]⟩ : ByteArray), .bool false, .int .i64 0]) ?_ 1 _ rfl;refine blk_put (cs:=#[.int .i64 0, .string (⟨#[]⟩ : ByteArray), .bool false, .int .i64 0]) ?_ 0 _ rfl;exact BK322.out⟩
         have n1_ : Aside0 (Below w.heap.size w ((((w5.setCell ⟨gb322,0,none⟩ (.int .i64 ((rd_T52 l0 x3_1).f0))).setCell ⟨gb322,1,none⟩ (.string ((rd_T52 l0 x3_1).f1))).setCell ⟨gb322,2,none⟩ (.bool ((rd_T52 l0 x3_1).f2))).setCell ⟨gb322,3,none⟩ (.int .i64 ((rd_T52 l0 x3_1).f3)))):=⟨by repeat ((with_reducible first | exact HB.out | refine below_set ?_ GE322.out))⟩
         (try clear BK322)
         (try clear HB)
         generalize ((((w5.setCell ⟨gb322,0,none⟩ (.int .i64 ((rd_T52 l0 x3_1).f0))).setCell ⟨gb322,1,none⟩ (.string ((rd_T52 l0 x3_1).f1))).setCell ⟨gb322,2,none⟩ (.bool ((rd_T52 l0 x3_1).f2))).setCell ⟨gb322,3,none⟩ (.int .i64 ((rd_T52 l0 x3_1).f3))) = w21 at n0_ n1_ ⊢
         have BK322:=n0_
         have HB:=n1_
         clear n0_ n1_
         have n0_:=Aside0.mk (blk_drew BK322.out)
         have n1_:=Aside0.mk (below_drew1 HB.out)
         clear BK322
         clear HB
         have BK322:=n0_
         have HB:=n1_
         clear n0_ n1_
         refine start_ (n:=31) (S:=fun w' => w'.cell? ⟨gb322,0,none⟩ = some (.int .i64 ((rd_T52 l0 x3_1).f0)) ∧ w'.cell? ⟨gb322,1,none⟩ = some (.string ((rd_T52 l0 x3_1).f1)) ∧ w'.cell? ⟨gb322,2,none⟩ = some (.bool ((rd_T52 l0 x3_1).f2)) ∧ w'.cell? ⟨gb322,3,none⟩ = some (.int .i64 ((rd_T52 l0 x3_1).f3))) (ds := []) #[false,false,false,false,false,false,false,false,false,false,false,false,false,false,false,false,false,false,false,false,false,false,false,false,false,false,false,false,false,false,false] (by kernel_rfl) rfl rfl ⟨(blk_cell BK322.out 0).trans rfl,(blk_cell BK322.out 1).trans rfl,(blk_cell BK322.out 2).trans rfl,(blk_cell BK322.out 3).trans rfl⟩ (fun hHeld => ?_);refine with_tabW spec_l20Good.tab5 spec_l20Good.bits5 (fun HT_ HW_ => ?_)
         generalize w21.drew = w22 at BK322 HB hHeld ⊢
         refine pure_ (i:=0) (N:=some 16) (v:=?_) (a':=?_) #[true,false,false,false,false,false,false,false,false,false,false,false,false,false,false,false,false,false,false,false,false,false,false,false,false,false,false,false,false,false,false] rfl rfl (any_of HT_.out (by kernel_rfl)) (fun _ _ _ h => h) (Or.inl ⟨by rfl, ?_⟩) ?_ ?_
         rotate_left
         ·intro w'
          go_simp
          with_reducible rfl
         rotate_left
         ·simp only [Act.put,sA_,s0_,s1_,i64_w,i32_w]
          rfl
         refine take_ (i:=1) (N:=some 17) (v:=?_) (a':=?_) #[true,true,false,false,false,false,false,false,false,false,false,false,false,false,false,false,false,false,false,false,false,false,false,false,false,false,false,false,false,false,false] rfl rfl (take_ofW HT_.out HW_.out (by kernel_rfl)) (fun _ _ _ h => h) (Or.inl ⟨by rfl, ?_⟩) hHeld ?_ ?_
         rotate_left
         ·rintro w' ⟨s0,s1,s2,s3⟩
          go_simp
          with_reducible rfl
         rotate_left
         ·simp only [Act.put,sA_,s0_,s1_,i64_w,i32_w]
          rfl
         refine one_ (i:=2) (N:=some 18) #[true,true,true,false,false,false,false,false,false,false,false,false,false,false,false,false,false,false,false,false,false,false,false,false,false,false,false,false,false,false,false] rfl rfl (one_of HT_.out (by kernel_rfl)) (by decide) (fun K hK => ?_)
         refine goes_ Try.func46 (by kernel_rfl) rfl #[.int .i64 ((rd_T52 l0 x3_1).f0), .int .i64 0, .int .i64 240] (by rfl) rfl rfl (by (try simp only [List.map_toArray,List.map_cons,List.map_nil]);rfl) ?_
         with_reducible refine (spec_l1In.calls ((rd_T52 l0 x3_1).f0) 0 240 true _ A7.out).mono ?_
         rintro e w' ⟨rfl,⟨nd,rfl⟩⟩
         refine ⟨_,rfl, ?_⟩
         refine hK.out _ _ ⟨(blk_cell BK322.out 0).trans rfl,(blk_cell BK322.out 1).trans rfl,(blk_cell BK322.out 2).trans rfl,(blk_cell BK322.out 3).trans rfl⟩ (fun hHeld => ?_)
         clear hK K
         refine norm_ (a':=?_) ?_ ?_
         rotate_left
         ·show Act.put _ (some 18) _ = _
          simp only [Act.put,sA_,s0_,s1_,i64_w,i32_w]
          rfl
         refine pure_ (i:=3) (N:=some 19) (v:=?_) (a':=?_) #[true,true,true,true,false,false,false,false,false,false,false,false,false,false,false,false,false,false,false,false,false,false,false,false,false,false,false,false,false,false,false] rfl rfl (any_of HT_.out (by kernel_rfl)) (fun _ _ _ h => h) (Or.inl ⟨by rfl, ?_⟩) ?_ ?_
         rotate_left
         ·intro w'
          go_simp
          with_reducible rfl
         rotate_left
         ·simp only [Act.put,sA_,s0_,s1_,i64_w,i32_w]
          rfl
         refine pure_ (i:=4) (N:=some 20) (v:=?_) (a':=?_) #[true,true,true,true,true,false,false,false,false,false,false,false,false,false,false,false,false,false,false,false,false,false,false,false,false,false,false,false,false,false,false] rfl rfl (any_of HT_.out (by kernel_rfl)) (fun _ _ _ h => h) (Or.inl ⟨by rfl, ?_⟩) ?_ ?_
         rotate_left
         ·intro w'
          go_simp
          with_reducible rfl
         rotate_left
         ·simp only [Act.put,sA_,s0_,s1_,i64_w,i32_w]
          rfl
         refine pure_ (i:=5) (N:=some 21) (v:=?_) (a':=?_) #[true,true,true,true,true,true,false,false,false,false,false,false,false,false,false,false,false,false,false,false,false,false,false,false,false,false,false,false,false,false,false] rfl rfl (any_of HT_.out (by kernel_rfl)) (fun _ _ _ h => h) (Or.inl ⟨by rfl, ?_⟩) ?_ ?_
         rotate_left
         ·intro w'
          go_simp
          with_reducible rfl
         rotate_left
         ·simp only [Act.put,sA_,s0_,s1_,i64_w,i32_w]
          rfl
         refine take_ (i:=6) (N:=some 22) (v:=?_) (a':=?_) #[true,true,true,true,true,true,true,false,false,false,false,false,false,false,false,false,false,false,false,false,false,false,false,false,false,false,false,false,false,false,false] rfl rfl (take_ofW HT_.out HW_.out (by kernel_rfl)) (fun _ _ _ h => h) (Or.inl ⟨by rfl, ?_⟩) hHeld ?_ ?_
         rotate_left
         ·rintro w' ⟨s0,s1,s2,s3⟩
          go_simp
          with_reducible rfl
         rotate_left
         ·simp only [Act.put,sA_,s0_,s1_,i64_w,i32_w]
          rfl
         refine one_ (i:=7) (N:=some 23) #[true,true,true,true,true,true,true,true,false,false,false,false,false,false,false,false,false,false,false,false,false,false,false,false,false,false,false,false,false,false,false] rfl rfl (one_of HT_.out (by kernel_rfl)) (by decide) (fun K hK => ?_)
         refine goes_ Try.func33 (by kernel_rfl) rfl #[.string ((rd_T52 l0 x3_1).f1)] (by rfl) rfl rfl (by (try simp only [List.map_toArray,List.map_cons,List.map_nil]);rfl) ?_
         with_reducible refine (spec_l2Id.calls k1 ((rd_T52 l0 x3_1).f1) true _ A9.out).mono ?_
         rintro e w' ⟨rfl,⟨nd,rfl⟩⟩
         refine ⟨_,rfl, ?_⟩
         refine hK.out _ _ ⟨(blk_cell BK322.out 0).trans rfl,(blk_cell BK322.out 1).trans rfl,(blk_cell BK322.out 2).trans rfl,(blk_cell BK322.out 3).trans rfl⟩ (fun hHeld => ?_)
         clear hK K
         refine norm_ (a':=?_) ?_ ?_
         rotate_left
         ·show Act.put _ (some 23) _ = _
          simp only [Act.put,sA_,s0_,s1_,i64_w,i32_w]
          rfl
         refine pure_ (i:=8) (N:=some 24) (v:=?_) (a':=?_) #[true,true,true,true,true,true,true,true,true,false,false,false,false,false,false,false,false,false,false,false,false,false,false,false,false,false,false,false,false,false,false] rfl rfl (any_of HT_.out (by kernel_rfl)) (fun _ _ _ h => h) (Or.inl ⟨by rfl, ?_⟩) ?_ ?_
         rotate_left
         ·intro w'
          go_simp
          with_reducible rfl
         rotate_left
         ·simp only [Act.put,sA_,s0_,s1_,i64_w,i32_w]
          rfl
         refine pure_ (i:=9) (N:=some 25) (v:=?_) (a':=?_) #[true,true,true,true,true,true,true,true,true,true,false,false,false,false,false,false,false,false,false,false,false,false,false,false,false,false,false,false,false,false,false] rfl rfl (any_of HT_.out (by kernel_rfl)) (fun _ _ _ h => h) (Or.inl ⟨by rfl, ?_⟩) ?_ ?_
         rotate_left
         ·intro w'
          go_simp
          with_reducible rfl
         rotate_left
         ·simp only [Act.put,sA_,s0_,s1_,i64_w,i32_w]
          rfl
         refine pure_ (i:=10) (N:=some 26) (v:=?_) (a':=?_) #[true,true,true,true,true,true,true,true,true,true,true,false,false,false,false,false,false,false,false,false,false,false,false,false,false,false,false,false,false,false,false] rfl rfl (any_of HT_.out (by kernel_rfl)) (fun _ _ _ h => h) (Or.inl ⟨by rfl, ?_⟩) ?_ ?_
         rotate_left
         ·intro w'
          go_simp
          with_reducible rfl
         rotate_left
         ·simp only [Act.put,sA_,s0_,s1_,i64_w,i32_w]
          rfl
         refine pure_ (i:=11) (N:=some 27) (v:=?_) (a':=?_) #[true,true,true,true,true,true,true,true,true,true,true,true,false,false,false,false,false,false,false,false,false,false,false,false,false,false,false,false,false,false,false] rfl rfl (any_of HT_.out (by kernel_rfl)) (fun _ _ _ h => h) (Or.inl ⟨by rfl, ?_⟩) ?_ ?_
         rotate_left
         ·intro w'
          go_simp
          with_reducible rfl
         rotate_left
         ·simp only [Act.put,sA_,s0_,s1_,i64_w,i32_w]
          rfl
         refine take_ (i:=12) (N:=some 28) (v:=?_) (a':=?_) #[true,true,true,true,true,true,true,true,true,true,true,true,true,false,false,false,false,false,false,false,false,false,false,false,false,false,false,false,false,false,false] rfl rfl (take_ofW HT_.out HW_.out (by kernel_rfl)) (fun _ _ _ h => h) (Or.inl ⟨by rfl, ?_⟩) hHeld ?_ ?_
         rotate_left
         ·rintro w' ⟨s0,s1,s2,s3⟩
          go_simp
          with_reducible rfl
         rotate_left
         ·simp only [Act.put,sA_,s0_,s1_,i64_w,i32_w]
          rfl
         refine one_ (i:=13) (N:=some 29) #[true,true,true,true,true,true,true,true,true,true,true,true,true,true,false,false,false,false,false,false,false,false,false,false,false,false,false,false,false,false,false] rfl rfl (one_of HT_.out (by kernel_rfl)) (by decide) (fun K hK => ?_)
         refine goes_ Try.func46 (by kernel_rfl) rfl #[.int .i64 ((rd_T52 l0 x3_1).f3), .int .i64 1, .int .i64 15] (by rfl) rfl rfl (by (try simp only [List.map_toArray,List.map_cons,List.map_nil]);rfl) ?_
         with_reducible refine (spec_l1In.calls ((rd_T52 l0 x3_1).f3) 1 15 false _ A11.out).mono ?_
         rintro e w' ⟨rfl,⟨nd,rfl⟩⟩
         refine ⟨_,rfl, ?_⟩
         refine hK.out _ _ ⟨(blk_cell BK322.out 0).trans rfl,(blk_cell BK322.out 1).trans rfl,(blk_cell BK322.out 2).trans rfl,(blk_cell BK322.out 3).trans rfl⟩ (fun hHeld => ?_)
         clear hK K
         refine norm_ (a':=?_) ?_ ?_
         rotate_left
         ·show Act.put _ (some 29) _ = _
          simp only [Act.put,sA_,s0_,s1_,i64_w,i32_w]
          rfl
         refine pure_ (i:=14) (N:=some 30) (v:=?_) (a':=?_) #[true,true,true,true,true,true,true,true,true,true,true,true,true,true,true,false,false,false,false,false,false,false,false,false,false,false,false,false,false,false,false] rfl rfl (any_of HT_.out (by kernel_rfl)) (fun _ _ _ h => h) (Or.inl ⟨by rfl, ?_⟩) ?_ ?_
         rotate_left
         ·intro w'
          go_simp
          with_reducible rfl
         rotate_left
         ·simp only [Act.put,sA_,s0_,s1_,i64_w,i32_w]
          rfl
         refine pure_ (i:=15) (N:=some 31) (v:=?_) (a':=?_) #[true,true,true,true,true,true,true,true,true,true,true,true,true,true,true,true,false,false,false,false,false,false,false,false,false,false,false,false,false,false,false] rfl rfl (any_of HT_.out (by kernel_rfl)) (fun _ _ _ h => h) (Or.inl ⟨by rfl, ?_⟩) ?_ ?_
         rotate_left
         ·intro w'
          go_simp
          with_reducible rfl
         rotate_left
         ·simp only [Act.put,sA_,s0_,s1_,i64_w,i32_w]
          rfl
         refine pure_ (i:=16) (N:=some 32) (v:=?_) (a':=?_) #[true,true,true,true,true,true,true,true,true,true,true,true,true,true,true,true,true,false,false,false,false,false,false,false,false,false,false,false,false,false,false] rfl rfl (any_of HT_.out (by kernel_rfl)) (fun _ _ _ h => h) (Or.inl ⟨by rfl, ?_⟩) ?_ ?_
         rotate_left
         ·intro w'
          go_simp
          with_reducible rfl
         rotate_left
         ·simp only [Act.put,sA_,s0_,s1_,i64_w,i32_w]
          rfl
         refine pure_ (i:=17) (N:=some 33) (v:=undef) (a':=?_) #[true,true,true,true,true,true,true,true,true,true,true,true,true,true,true,true,true,true,false,false,false,false,false,false,false,false,false,false,false,false,false] rfl rfl (any_of HT_.out (by kernel_rfl)) (fun _ _ _ h => h) (Or.inr ⟨by rfl,rfl⟩) ?_ ?_
         rotate_left
         ·simp only [Act.put,sA_,s0_,s1_,i64_w,i32_w]
          rfl
         refine pure_ (i:=18) (N:=some 34) (v:=undef) (a':=?_) #[true,true,true,true,true,true,true,true,true,true,true,true,true,true,true,true,true,true,true,false,false,false,false,false,false,false,false,false,false,false,false] rfl rfl (any_of HT_.out (by kernel_rfl)) (fun _ _ _ h => h) (Or.inr ⟨by rfl,rfl⟩) ?_ ?_
         rotate_left
         ·simp only [Act.put,sA_,s0_,s1_,i64_w,i32_w]
          rfl
         refine pure_ (i:=19) (N:=some 35) (v:=undef) (a':=?_) #[true,true,true,true,true,true,true,true,true,true,true,true,true,true,true,true,true,true,true,true,false,false,false,false,false,false,false,false,false,false,false] rfl rfl (any_of HT_.out (by kernel_rfl)) (fun _ _ _ h => h) (Or.inr ⟨by rfl,rfl⟩) ?_ ?_
         rotate_left
         ·simp only [Act.put,sA_,s0_,s1_,i64_w,i32_w]
          rfl
         refine pure_ (i:=20) (N:=some 36) (v:=undef) (a':=?_) #[true,true,true,true,true,true,true,true,true,true,true,true,true,true,true,true,true,true,true,true,true,false,false,false,false,false,false,false,false,false,false] rfl rfl (any_of HT_.out (by kernel_rfl)) (fun _ _ _ h => h) (Or.inr ⟨by rfl,rfl⟩) ?_ ?_
         rotate_left
         ·simp only [Act.put,sA_,s0_,s1_,i64_w,i32_w]
          rfl
         refine pure_ (i:=21) (N:=some 37) (v:=undef) (a':=?_) #[true,true,true,true,true,true,true,true,true,true,true,true,true,true,true,true,true,true,true,true,true,true,false,false,false,false,false,false,false,false,false] rfl rfl (any_of HT_.out (by kernel_rfl)) (fun _ _ _ h => h) (Or.inr ⟨by rfl,rfl⟩) ?_ ?_
         rotate_left
         ·simp only [Act.put,sA_,s0_,s1_,i64_w,i32_w]
          rfl
         refine pure_ (i:=22) (N:=some 38) (v:=undef) (a':=?_) #[true,true,true,true,true,true,true,true,true,true,true,true,true,true,true,true,true,true,true,true,true,true,true,false,false,false,false,false,false,false,false] rfl rfl (any_of HT_.out (by kernel_rfl)) (fun _ _ _ h => h) (Or.inr ⟨by rfl,rfl⟩) ?_ ?_
         rotate_left
         ·simp only [Act.put,sA_,s0_,s1_,i64_w,i32_w]
          rfl
         refine pure_ (i:=23) (N:=some 39) (v:=undef) (a':=?_) #[true,true,true,true,true,true,true,true,true,true,true,true,true,true,true,true,true,true,true,true,true,true,true,true,false,false,false,false,false,false,false] rfl rfl (any_of HT_.out (by kernel_rfl)) (fun _ _ _ h => h) (Or.inr ⟨by rfl,rfl⟩) ?_ ?_
         rotate_left
         ·simp only [Act.put,sA_,s0_,s1_,i64_w,i32_w]
          rfl
         refine pure_ (i:=24) (N:=some 40) (v:=undef) (a':=?_) #[true,true,true,true,true,true,true,true,true,true,true,true,true,true,true,true,true,true,true,true,true,true,true,true,true,false,false,false,false,false,false] rfl rfl (any_of HT_.out (by kernel_rfl)) (fun _ _ _ h => h) (Or.inr ⟨by rfl,rfl⟩) ?_ ?_
         rotate_left
         ·simp only [Act.put,sA_,s0_,s1_,i64_w,i32_w]
          rfl
         refine pure_ (i:=25) (N:=some 41) (v:=undef) (a':=?_) #[true,true,true,true,true,true,true,true,true,true,true,true,true,true,true,true,true,true,true,true,true,true,true,true,true,true,false,false,false,false,false] rfl rfl (any_of HT_.out (by kernel_rfl)) (fun _ _ _ h => h) (Or.inr ⟨by rfl,rfl⟩) ?_ ?_
         rotate_left
         ·simp only [Act.put,sA_,s0_,s1_,i64_w,i32_w]
          rfl
         refine pure_ (i:=26) (N:=some 42) (v:=undef) (a':=?_) #[true,true,true,true,true,true,true,true,true,true,true,true,true,true,true,true,true,true,true,true,true,true,true,true,true,true,true,false,false,false,false] rfl rfl (any_of HT_.out (by kernel_rfl)) (fun _ _ _ h => h) (Or.inr ⟨by rfl,rfl⟩) ?_ ?_
         rotate_left
         ·simp only [Act.put,sA_,s0_,s1_,i64_w,i32_w]
          rfl
         refine pure_ (i:=27) (N:=some 43) (v:=undef) (a':=?_) #[true,true,true,true,true,true,true,true,true,true,true,true,true,true,true,true,true,true,true,true,true,true,true,true,true,true,true,true,false,false,false] rfl rfl (any_of HT_.out (by kernel_rfl)) (fun _ _ _ h => h) (Or.inr ⟨by rfl,rfl⟩) ?_ ?_
         rotate_left
         ·simp only [Act.put,sA_,s0_,s1_,i64_w,i32_w]
          rfl
         refine pure_ (i:=28) (N:=some 44) (v:=undef) (a':=?_) #[true,true,true,true,true,true,true,true,true,true,true,true,true,true,true,true,true,true,true,true,true,true,true,true,true,true,true,true,true,false,false] rfl rfl (any_of HT_.out (by kernel_rfl)) (fun _ _ _ h => h) (Or.inr ⟨by rfl,rfl⟩) ?_ ?_
         rotate_left
         ·simp only [Act.put,sA_,s0_,s1_,i64_w,i32_w]
          rfl
         refine pure_ (i:=29) (N:=some 45) (v:=undef) (a':=?_) #[true,true,true,true,true,true,true,true,true,true,true,true,true,true,true,true,true,true,true,true,true,true,true,true,true,true,true,true,true,true,false] rfl rfl (any_of HT_.out (by kernel_rfl)) (fun _ _ _ h => h) (Or.inr ⟨by rfl,rfl⟩) ?_ ?_
         rotate_left
         ·simp only [Act.put,sA_,s0_,s1_,i64_w,i32_w]
          rfl
         refine pure_ (i:=30) (N:=some 46) (v:=?_) (a':=?_) #[true,true,true,true,true,true,true,true,true,true,true,true,true,true,true,true,true,true,true,true,true,true,true,true,true,true,true,true,true,true,true] rfl rfl (any_of HT_.out (by kernel_rfl)) (fun _ _ _ h => h) (Or.inl ⟨by rfl, ?_⟩) ?_ ?_
         rotate_left
         ·intro w'
          go_simp
          with_reducible rfl
         rotate_left
         ·simp only [Act.put,sA_,s0_,s1_,i64_w,i32_w]
          rfl
         refine done_ (done_of HT_.out (by kernel_rfl)) ?_
         try go_wp2
         go_meet
         case rel => exact ⟨_,(true),(by rfl),H',⟨by have:=HK1.out;omega⟩,⟨by (with_reducible repeat (refine blk_drewN ?_ _));exact BK322.out⟩,⟨by repeat ((with_reducible first | exact HB.out | apply pw_below_drewN))⟩⟩
       ·replace c10:=Bool.eq_false_iff.mpr c10
        subst c10
        have H1 : (spec_l20Good.j1 k1 l0 x3_1 true ((rd_T52 l0 x3_1).f0) ((rd_T52 l0 x3_1).f1) ((rd_T52 l0 x3_1).f2) ((rd_T52 l0 x3_1).f3)) = some r:=by rw [if_neg (show ¬ (false = true) by decide)] at H;exact H
        clear H
        have H:=H1
        clear H1
        have H':=Aside0.mk H
        clear H
        try go_wp2
        have n0_ : Aside0 (((((w5.setCell ⟨gb322,0,none⟩ (.int .i64 ((rd_T52 l0 x3_1).f0))).setCell ⟨gb322,1,none⟩ (.string ((rd_T52 l0 x3_1).f1))).setCell ⟨gb322,2,none⟩ (.bool ((rd_T52 l0 x3_1).f2))).setCell ⟨gb322,3,none⟩ (.int .i64 ((rd_T52 l0 x3_1).f3))).heap[gb322]? = some (.cells #[.int .i64 ((rd_T52 l0 x3_1).f0), .string ((rd_T52 l0 x3_1).f1), .bool ((rd_T52 l0 x3_1).f2), .int .i64 ((rd_T52 l0 x3_1).f3)] 52 (0,0))):=⟨by refine blk_put (cs:=#[.int .i64 ((rd_T52 l0 x3_1).f0), .string ((rd_T52 l0 x3_1).f1), .bool ((rd_T52 l0 x3_1).f2), .int .i64 0]) ?_ 3 _ rfl;refine blk_put (cs:=#[.int .i64 ((rd_T52 l0 x3_1).f0), .string ((rd_T52 l0 x3_1).f1), .bool false, .int .i64 0]) ?_ 2 _ rfl;refine blk_put (cs:=#[.int .i64 ((rd_T52 l0 x3_1).f0), .string (⟨#[]⟩ : ByteArray), .bool false, .int .i64 0]) ?_ 1 _ rfl;refine blk_put (cs:=#[.int .i64 0, .string (⟨#[]⟩ : ByteArray), .bool false, .int .i64 0]) ?_ 0 _ rfl;exact BK322.out⟩
        have n1_ : Aside0 (Below w.heap.size w ((((w5.setCell ⟨gb322,0,none⟩ (.int .i64 ((rd_T52 l0 x3_1).f0))).setCell ⟨gb322,1,none⟩ (.string ((rd_T52 l0 x3_1).f1))).setCell ⟨gb322,2,none⟩ (.bool ((rd_T52 l0 x3_1).f2))).setCell ⟨gb322,3,none⟩ (.int .i64 ((rd_T52 l0 x3_1).f3)))):=⟨by repeat ((with_reducible first | exact HB.out | refine below_set ?_ GE322.out))⟩
        (try clear BK322)
        (try clear HB)
        generalize ((((w5.setCell ⟨gb322,0,none⟩ (.int .i64 ((rd_T52 l0 x3_1).f0))).setCell ⟨gb322,1,none⟩ (.string ((rd_T52 l0 x3_1).f1))).setCell ⟨gb322,2,none⟩ (.bool ((rd_T52 l0 x3_1).f2))).setCell ⟨gb322,3,none⟩ (.int .i64 ((rd_T52 l0 x3_1).f3))) = w23 at n0_ n1_ ⊢
        have BK322:=n0_
        have HB:=n1_
        clear n0_ n1_
        have n0_:=Aside0.mk (blk_drew BK322.out)
        have n1_:=Aside0.mk (below_drew1 HB.out)
        clear BK322
        clear HB
        have BK322:=n0_
        have HB:=n1_
        clear n0_ n1_
        refine start_ (n:=31) (S:=fun w' => w'.cell? ⟨gb322,0,none⟩ = some (.int .i64 ((rd_T52 l0 x3_1).f0)) ∧ w'.cell? ⟨gb322,1,none⟩ = some (.string ((rd_T52 l0 x3_1).f1)) ∧ w'.cell? ⟨gb322,2,none⟩ = some (.bool ((rd_T52 l0 x3_1).f2)) ∧ w'.cell? ⟨gb322,3,none⟩ = some (.int .i64 ((rd_T52 l0 x3_1).f3))) (ds := []) #[false,false,false,false,false,false,false,false,false,false,false,false,false,false,false,false,false,false,false,false,false,false,false,false,false,false,false,false,false,false,false] (by kernel_rfl) rfl rfl ⟨(blk_cell BK322.out 0).trans rfl,(blk_cell BK322.out 1).trans rfl,(blk_cell BK322.out 2).trans rfl,(blk_cell BK322.out 3).trans rfl⟩ (fun hHeld => ?_);refine with_tabW spec_l20Good.tab5 spec_l20Good.bits5 (fun HT_ HW_ => ?_)
        generalize w23.drew = w24 at BK322 HB hHeld ⊢
        refine pure_ (i:=0) (N:=some 16) (v:=?_) (a':=?_) #[true,false,false,false,false,false,false,false,false,false,false,false,false,false,false,false,false,false,false,false,false,false,false,false,false,false,false,false,false,false,false] rfl rfl (any_of HT_.out (by kernel_rfl)) (fun _ _ _ h => h) (Or.inl ⟨by rfl, ?_⟩) ?_ ?_
        rotate_left
        ·intro w'
         go_simp
         with_reducible rfl
        rotate_left
        ·simp only [Act.put,sA_,s0_,s1_,i64_w,i32_w]
         rfl
        refine take_ (i:=1) (N:=some 17) (v:=?_) (a':=?_) #[true,true,false,false,false,false,false,false,false,false,false,false,false,false,false,false,false,false,false,false,false,false,false,false,false,false,false,false,false,false,false] rfl rfl (take_ofW HT_.out HW_.out (by kernel_rfl)) (fun _ _ _ h => h) (Or.inl ⟨by rfl, ?_⟩) hHeld ?_ ?_
        rotate_left
        ·rintro w' ⟨s0,s1,s2,s3⟩
         go_simp
         with_reducible rfl
        rotate_left
        ·simp only [Act.put,sA_,s0_,s1_,i64_w,i32_w]
         rfl
        refine one_ (i:=2) (N:=some 18) #[true,true,true,false,false,false,false,false,false,false,false,false,false,false,false,false,false,false,false,false,false,false,false,false,false,false,false,false,false,false,false] rfl rfl (one_of HT_.out (by kernel_rfl)) (by decide) (fun K hK => ?_)
        refine goes_ Try.func46 (by kernel_rfl) rfl #[.int .i64 ((rd_T52 l0 x3_1).f0), .int .i64 0, .int .i64 240] (by rfl) rfl rfl (by (try simp only [List.map_toArray,List.map_cons,List.map_nil]);rfl) ?_
        with_reducible refine (spec_l1In.calls ((rd_T52 l0 x3_1).f0) 0 240 true _ A7.out).mono ?_
        rintro e w' ⟨rfl,⟨nd,rfl⟩⟩
        refine ⟨_,rfl, ?_⟩
        refine hK.out _ _ ⟨(blk_cell BK322.out 0).trans rfl,(blk_cell BK322.out 1).trans rfl,(blk_cell BK322.out 2).trans rfl,(blk_cell BK322.out 3).trans rfl⟩ (fun hHeld => ?_)
        clear hK K
        refine norm_ (a':=?_) ?_ ?_
        rotate_left
        ·show Act.put _ (some 18) _ = _
         simp only [Act.put,sA_,s0_,s1_,i64_w,i32_w]
         rfl
        refine pure_ (i:=3) (N:=some 19) (v:=?_) (a':=?_) #[true,true,true,true,false,false,false,false,false,false,false,false,false,false,false,false,false,false,false,false,false,false,false,false,false,false,false,false,false,false,false] rfl rfl (any_of HT_.out (by kernel_rfl)) (fun _ _ _ h => h) (Or.inl ⟨by rfl, ?_⟩) ?_ ?_
        rotate_left
        ·intro w'
         go_simp
         with_reducible rfl
        rotate_left
        ·simp only [Act.put,sA_,s0_,s1_,i64_w,i32_w]
         rfl
        refine pure_ (i:=4) (N:=some 20) (v:=?_) (a':=?_) #[true,true,true,true,true,false,false,false,false,false,false,false,false,false,false,false,false,false,false,false,false,false,false,false,false,false,false,false,false,false,false] rfl rfl (any_of HT_.out (by kernel_rfl)) (fun _ _ _ h => h) (Or.inl ⟨by rfl, ?_⟩) ?_ ?_
        rotate_left
        ·intro w'
         go_simp
         with_reducible rfl
        rotate_left
        ·simp only [Act.put,sA_,s0_,s1_,i64_w,i32_w]
         rfl
        refine pure_ (i:=5) (N:=some 21) (v:=?_) (a':=?_) #[true,true,true,true,true,true,false,false,false,false,false,false,false,false,false,false,false,false,false,false,false,false,false,false,false,false,false,false,false,false,false] rfl rfl (any_of HT_.out (by kernel_rfl)) (fun _ _ _ h => h) (Or.inl ⟨by rfl, ?_⟩) ?_ ?_
        rotate_left
        ·intro w'
         go_simp
         with_reducible rfl
        rotate_left
        ·simp only [Act.put,sA_,s0_,s1_,i64_w,i32_w]
         rfl
        refine take_ (i:=6) (N:=some 22) (v:=?_) (a':=?_) #[true,true,true,true,true,true,true,false,false,false,false,false,false,false,false,false,false,false,false,false,false,false,false,false,false,false,false,false,false,false,false] rfl rfl (take_ofW HT_.out HW_.out (by kernel_rfl)) (fun _ _ _ h => h) (Or.inl ⟨by rfl, ?_⟩) hHeld ?_ ?_
        rotate_left
        ·rintro w' ⟨s0,s1,s2,s3⟩
         go_simp
         with_reducible rfl
        rotate_left
        ·simp only [Act.put,sA_,s0_,s1_,i64_w,i32_w]
         rfl
        refine one_ (i:=7) (N:=some 23) #[true,true,true,true,true,true,true,true,false,false,false,false,false,false,false,false,false,false,false,false,false,false,false,false,false,false,false,false,false,false,false] rfl rfl (one_of HT_.out (by kernel_rfl)) (by decide) (fun K hK => ?_)
        refine goes_ Try.func33 (by kernel_rfl) rfl #[.string ((rd_T52 l0 x3_1).f1)] (by rfl) rfl rfl (by (try simp only [List.map_toArray,List.map_cons,List.map_nil]);rfl) ?_
        with_reducible refine (spec_l2Id.calls k1 ((rd_T52 l0 x3_1).f1) false _ A9.out).mono ?_
        rintro e w' ⟨rfl,⟨nd,rfl⟩⟩
        refine ⟨_,rfl, ?_⟩
        refine hK.out _ _ ⟨(blk_cell BK322.out 0).trans rfl,(blk_cell BK322.out 1).trans rfl,(blk_cell BK322.out 2).trans rfl,(blk_cell BK322.out 3).trans rfl⟩ (fun hHeld => ?_)
        clear hK K
        refine norm_ (a':=?_) ?_ ?_
        rotate_left
        ·show Act.put _ (some 23) _ = _
         simp only [Act.put,sA_,s0_,s1_,i64_w,i32_w]
         rfl
        refine pure_ (i:=8) (N:=some 24) (v:=?_) (a':=?_) #[true,true,true,true,true,true,true,true,true,false,false,false,false,false,false,false,false,false,false,false,false,false,false,false,false,false,false,false,false,false,false] rfl rfl (any_of HT_.out (by kernel_rfl)) (fun _ _ _ h => h) (Or.inl ⟨by rfl, ?_⟩) ?_ ?_
        rotate_left
        ·intro w'
         go_simp
         with_reducible rfl
        rotate_left
        ·simp only [Act.put,sA_,s0_,s1_,i64_w,i32_w]
         rfl
        refine pure_ (i:=9) (N:=some 25) (v:=?_) (a':=?_) #[true,true,true,true,true,true,true,true,true,true,false,false,false,false,false,false,false,false,false,false,false,false,false,false,false,false,false,false,false,false,false] rfl rfl (any_of HT_.out (by kernel_rfl)) (fun _ _ _ h => h) (Or.inl ⟨by rfl, ?_⟩) ?_ ?_
        rotate_left
        ·intro w'
         go_simp
         with_reducible rfl
        rotate_left
        ·simp only [Act.put,sA_,s0_,s1_,i64_w,i32_w]
         rfl
        refine pure_ (i:=10) (N:=some 26) (v:=?_) (a':=?_) #[true,true,true,true,true,true,true,true,true,true,true,false,false,false,false,false,false,false,false,false,false,false,false,false,false,false,false,false,false,false,false] rfl rfl (any_of HT_.out (by kernel_rfl)) (fun _ _ _ h => h) (Or.inl ⟨by rfl, ?_⟩) ?_ ?_
        rotate_left
        ·intro w'
         go_simp
         with_reducible rfl
        rotate_left
        ·simp only [Act.put,sA_,s0_,s1_,i64_w,i32_w]
         rfl
        refine pure_ (i:=11) (N:=some 27) (v:=undef) (a':=?_) #[true,true,true,true,true,true,true,true,true,true,true,true,false,false,false,false,false,false,false,false,false,false,false,false,false,false,false,false,false,false,false] rfl rfl (any_of HT_.out (by kernel_rfl)) (fun _ _ _ h => h) (Or.inr ⟨by rfl,rfl⟩) ?_ ?_
        rotate_left
        ·simp only [Act.put,sA_,s0_,s1_,i64_w,i32_w]
         rfl
        refine pure_ (i:=12) (N:=some 28) (v:=undef) (a':=?_) #[true,true,true,true,true,true,true,true,true,true,true,true,true,false,false,false,false,false,false,false,false,false,false,false,false,false,false,false,false,false,false] rfl rfl (any_of HT_.out (by kernel_rfl)) (fun _ _ _ h => h) (Or.inr ⟨by rfl,rfl⟩) ?_ ?_
        rotate_left
        ·simp only [Act.put,sA_,s0_,s1_,i64_w,i32_w]
         rfl
        refine pure_ (i:=13) (N:=some 29) (v:=undef) (a':=?_) #[true,true,true,true,true,true,true,true,true,true,true,true,true,true,false,false,false,false,false,false,false,false,false,false,false,false,false,false,false,false,false] rfl rfl (any_of HT_.out (by kernel_rfl)) (fun _ _ _ h => h) (Or.inr ⟨by rfl,rfl⟩) ?_ ?_
        rotate_left
        ·simp only [Act.put,sA_,s0_,s1_,i64_w,i32_w]
         rfl
        refine pure_ (i:=14) (N:=some 30) (v:=undef) (a':=?_) #[true,true,true,true,true,true,true,true,true,true,true,true,true,true,true,false,false,false,false,false,false,false,false,false,false,false,false,false,false,false,false] rfl rfl (any_of HT_.out (by kernel_rfl)) (fun _ _ _ h => h) (Or.inr ⟨by rfl,rfl⟩) ?_ ?_
        rotate_left
        ·simp only [Act.put,sA_,s0_,s1_,i64_w,i32_w]
         rfl
        refine pure_ (i:=15) (N:=some 31) (v:=?_) (a':=?_) #[true,true,true,true,true,true,true,true,true,true,true,true,true,true,true,true,false,false,false,false,false,false,false,false,false,false,false,false,false,false,false] rfl rfl (any_of HT_.out (by kernel_rfl)) (fun _ _ _ h => h) (Or.inl ⟨by rfl, ?_⟩) ?_ ?_
        rotate_left
        ·intro w'
         go_simp
         with_reducible rfl
        rotate_left
        ·simp only [Act.put,sA_,s0_,s1_,i64_w,i32_w]
         rfl
        refine pure_ (i:=16) (N:=some 32) (v:=?_) (a':=?_) #[true,true,true,true,true,true,true,true,true,true,true,true,true,true,true,true,true,false,false,false,false,false,false,false,false,false,false,false,false,false,false] rfl rfl (any_of HT_.out (by kernel_rfl)) (fun _ _ _ h => h) (Or.inl ⟨by rfl, ?_⟩) ?_ ?_
        rotate_left
        ·intro w'
         go_simp
         with_reducible rfl
        rotate_left
        ·simp only [Act.put,sA_,s0_,s1_,i64_w,i32_w]
         rfl
        refine pure_ (i:=17) (N:=some 33) (v:=undef) (a':=?_) #[true,true,true,true,true,true,true,true,true,true,true,true,true,true,true,true,true,true,false,false,false,false,false,false,false,false,false,false,false,false,false] rfl rfl (any_of HT_.out (by kernel_rfl)) (fun _ _ _ h => h) (Or.inr ⟨by rfl,rfl⟩) ?_ ?_
        rotate_left
        ·simp only [Act.put,sA_,s0_,s1_,i64_w,i32_w]
         rfl
        refine pure_ (i:=18) (N:=some 34) (v:=undef) (a':=?_) #[true,true,true,true,true,true,true,true,true,true,true,true,true,true,true,true,true,true,true,false,false,false,false,false,false,false,false,false,false,false,false] rfl rfl (any_of HT_.out (by kernel_rfl)) (fun _ _ _ h => h) (Or.inr ⟨by rfl,rfl⟩) ?_ ?_
        rotate_left
        ·simp only [Act.put,sA_,s0_,s1_,i64_w,i32_w]
         rfl
        refine pure_ (i:=19) (N:=some 35) (v:=undef) (a':=?_) #[true,true,true,true,true,true,true,true,true,true,true,true,true,true,true,true,true,true,true,true,false,false,false,false,false,false,false,false,false,false,false] rfl rfl (any_of HT_.out (by kernel_rfl)) (fun _ _ _ h => h) (Or.inr ⟨by rfl,rfl⟩) ?_ ?_
        rotate_left
        ·simp only [Act.put,sA_,s0_,s1_,i64_w,i32_w]
         rfl
        refine pure_ (i:=20) (N:=some 36) (v:=undef) (a':=?_) #[true,true,true,true,true,true,true,true,true,true,true,true,true,true,true,true,true,true,true,true,true,false,false,false,false,false,false,false,false,false,false] rfl rfl (any_of HT_.out (by kernel_rfl)) (fun _ _ _ h => h) (Or.inr ⟨by rfl,rfl⟩) ?_ ?_
        rotate_left
        ·simp only [Act.put,sA_,s0_,s1_,i64_w,i32_w]
         rfl
        refine pure_ (i:=21) (N:=some 37) (v:=undef) (a':=?_) #[true,true,true,true,true,true,true,true,true,true,true,true,true,true,true,true,true,true,true,true,true,true,false,false,false,false,false,false,false,false,false] rfl rfl (any_of HT_.out (by kernel_rfl)) (fun _ _ _ h => h) (Or.inr ⟨by rfl,rfl⟩) ?_ ?_
        rotate_left
        ·simp only [Act.put,sA_,s0_,s1_,i64_w,i32_w]
         rfl
        refine pure_ (i:=22) (N:=some 38) (v:=undef) (a':=?_) #[true,true,true,true,true,true,true,true,true,true,true,true,true,true,true,true,true,true,true,true,true,true,true,false,false,false,false,false,false,false,false] rfl rfl (any_of HT_.out (by kernel_rfl)) (fun _ _ _ h => h) (Or.inr ⟨by rfl,rfl⟩) ?_ ?_
        rotate_left
        ·simp only [Act.put,sA_,s0_,s1_,i64_w,i32_w]
         rfl
        refine pure_ (i:=23) (N:=some 39) (v:=undef) (a':=?_) #[true,true,true,true,true,true,true,true,true,true,true,true,true,true,true,true,true,true,true,true,true,true,true,true,false,false,false,false,false,false,false] rfl rfl (any_of HT_.out (by kernel_rfl)) (fun _ _ _ h => h) (Or.inr ⟨by rfl,rfl⟩) ?_ ?_
        rotate_left
        ·simp only [Act.put,sA_,s0_,s1_,i64_w,i32_w]
         rfl
        refine pure_ (i:=24) (N:=some 40) (v:=undef) (a':=?_) #[true,true,true,true,true,true,true,true,true,true,true,true,true,true,true,true,true,true,true,true,true,true,true,true,true,false,false,false,false,false,false] rfl rfl (any_of HT_.out (by kernel_rfl)) (fun _ _ _ h => h) (Or.inr ⟨by rfl,rfl⟩) ?_ ?_
        rotate_left
        ·simp only [Act.put,sA_,s0_,s1_,i64_w,i32_w]
         rfl
        refine pure_ (i:=25) (N:=some 41) (v:=undef) (a':=?_) #[true,true,true,true,true,true,true,true,true,true,true,true,true,true,true,true,true,true,true,true,true,true,true,true,true,true,false,false,false,false,false] rfl rfl (any_of HT_.out (by kernel_rfl)) (fun _ _ _ h => h) (Or.inr ⟨by rfl,rfl⟩) ?_ ?_
        rotate_left
        ·simp only [Act.put,sA_,s0_,s1_,i64_w,i32_w]
         rfl
        refine pure_ (i:=26) (N:=some 42) (v:=undef) (a':=?_) #[true,true,true,true,true,true,true,true,true,true,true,true,true,true,true,true,true,true,true,true,true,true,true,true,true,true,true,false,false,false,false] rfl rfl (any_of HT_.out (by kernel_rfl)) (fun _ _ _ h => h) (Or.inr ⟨by rfl,rfl⟩) ?_ ?_
        rotate_left
        ·simp only [Act.put,sA_,s0_,s1_,i64_w,i32_w]
         rfl
        refine pure_ (i:=27) (N:=some 43) (v:=undef) (a':=?_) #[true,true,true,true,true,true,true,true,true,true,true,true,true,true,true,true,true,true,true,true,true,true,true,true,true,true,true,true,false,false,false] rfl rfl (any_of HT_.out (by kernel_rfl)) (fun _ _ _ h => h) (Or.inr ⟨by rfl,rfl⟩) ?_ ?_
        rotate_left
        ·simp only [Act.put,sA_,s0_,s1_,i64_w,i32_w]
         rfl
        refine pure_ (i:=28) (N:=some 44) (v:=undef) (a':=?_) #[true,true,true,true,true,true,true,true,true,true,true,true,true,true,true,true,true,true,true,true,true,true,true,true,true,true,true,true,true,false,false] rfl rfl (any_of HT_.out (by kernel_rfl)) (fun _ _ _ h => h) (Or.inr ⟨by rfl,rfl⟩) ?_ ?_
        rotate_left
        ·simp only [Act.put,sA_,s0_,s1_,i64_w,i32_w]
         rfl
        refine pure_ (i:=29) (N:=some 45) (v:=undef) (a':=?_) #[true,true,true,true,true,true,true,true,true,true,true,true,true,true,true,true,true,true,true,true,true,true,true,true,true,true,true,true,true,true,false] rfl rfl (any_of HT_.out (by kernel_rfl)) (fun _ _ _ h => h) (Or.inr ⟨by rfl,rfl⟩) ?_ ?_
        rotate_left
        ·simp only [Act.put,sA_,s0_,s1_,i64_w,i32_w]
         rfl
        refine pure_ (i:=30) (N:=some 46) (v:=?_) (a':=?_) #[true,true,true,true,true,true,true,true,true,true,true,true,true,true,true,true,true,true,true,true,true,true,true,true,true,true,true,true,true,true,true] rfl rfl (any_of HT_.out (by kernel_rfl)) (fun _ _ _ h => h) (Or.inl ⟨by rfl, ?_⟩) ?_ ?_
        rotate_left
        ·intro w'
         go_simp
         with_reducible rfl
        rotate_left
        ·simp only [Act.put,sA_,s0_,s1_,i64_w,i32_w]
         rfl
        refine done_ (done_of HT_.out (by kernel_rfl)) ?_
        try go_wp2
        go_meet
        case rel => exact ⟨_,(true),(by rfl),H',⟨by have:=HK1.out;omega⟩,⟨by (with_reducible repeat (refine blk_drewN ?_ _));exact BK322.out⟩,⟨by repeat ((with_reducible first | exact HB.out | apply pw_below_drewN))⟩⟩
      ·replace c8:=Bool.eq_false_iff.mpr c8
       subst c8
       have H1 : (spec_l20Good.j1 k1 l0 x3_1 true ((rd_T52 l0 x3_1).f0) ((rd_T52 l0 x3_1).f1) ((rd_T52 l0 x3_1).f2) ((rd_T52 l0 x3_1).f3)) = some r:=by rw [if_neg (show ¬ (false = true) by decide)] at H;exact H
       clear H
       have H:=H1
       clear H1
       have H':=Aside0.mk H
       clear H
       try go_wp2
       have n0_ : Aside0 (((((w5.setCell ⟨gb322,0,none⟩ (.int .i64 ((rd_T52 l0 x3_1).f0))).setCell ⟨gb322,1,none⟩ (.string ((rd_T52 l0 x3_1).f1))).setCell ⟨gb322,2,none⟩ (.bool ((rd_T52 l0 x3_1).f2))).setCell ⟨gb322,3,none⟩ (.int .i64 ((rd_T52 l0 x3_1).f3))).heap[gb322]? = some (.cells #[.int .i64 ((rd_T52 l0 x3_1).f0), .string ((rd_T52 l0 x3_1).f1), .bool ((rd_T52 l0 x3_1).f2), .int .i64 ((rd_T52 l0 x3_1).f3)] 52 (0,0))):=⟨by refine blk_put (cs:=#[.int .i64 ((rd_T52 l0 x3_1).f0), .string ((rd_T52 l0 x3_1).f1), .bool ((rd_T52 l0 x3_1).f2), .int .i64 0]) ?_ 3 _ rfl;refine blk_put (cs:=#[.int .i64 ((rd_T52 l0 x3_1).f0), .string ((rd_T52 l0 x3_1).f1), .bool false, .int .i64 0]) ?_ 2 _ rfl;refine blk_put (cs:=#[.int .i64 ((rd_T52 l0 x3_1).f0), .string (⟨#[]⟩ : ByteArray), .bool false, .int .i64 0]) ?_ 1 _ rfl;refine blk_put (cs:=#[.int .i64 0, .string (⟨#[]⟩ : ByteArray), .bool false, .int .i64 0]) ?_ 0 _ rfl;exact BK322.out⟩
       have n1_ : Aside0 (Below w.heap.size w ((((w5.setCell ⟨gb322,0,none⟩ (.int .i64 ((rd_T52 l0 x3_1).f0))).setCell ⟨gb322,1,none⟩ (.string ((rd_T52 l0 x3_1).f1))).setCell ⟨gb322,2,none⟩ (.bool ((rd_T52 l0 x3_1).f2))).setCell ⟨gb322,3,none⟩ (.int .i64 ((rd_T52 l0 x3_1).f3)))):=⟨by repeat ((with_reducible first | exact HB.out | refine below_set ?_ GE322.out))⟩
       (try clear BK322)
       (try clear HB)
       generalize ((((w5.setCell ⟨gb322,0,none⟩ (.int .i64 ((rd_T52 l0 x3_1).f0))).setCell ⟨gb322,1,none⟩ (.string ((rd_T52 l0 x3_1).f1))).setCell ⟨gb322,2,none⟩ (.bool ((rd_T52 l0 x3_1).f2))).setCell ⟨gb322,3,none⟩ (.int .i64 ((rd_T52 l0 x3_1).f3))) = w25 at n0_ n1_ ⊢
       have BK322:=n0_
       have HB:=n1_
       clear n0_ n1_
       have n0_:=Aside0.mk (blk_drew BK322.out)
       have n1_:=Aside0.mk (below_drew1 HB.out)
       clear BK322
       clear HB
       have BK322:=n0_
       have HB:=n1_
       clear n0_ n1_
       refine start_ (n:=31) (S:=fun w' => w'.cell? ⟨gb322,0,none⟩ = some (.int .i64 ((rd_T52 l0 x3_1).f0)) ∧ w'.cell? ⟨gb322,1,none⟩ = some (.string ((rd_T52 l0 x3_1).f1)) ∧ w'.cell? ⟨gb322,2,none⟩ = some (.bool ((rd_T52 l0 x3_1).f2)) ∧ w'.cell? ⟨gb322,3,none⟩ = some (.int .i64 ((rd_T52 l0 x3_1).f3))) (ds := []) #[false,false,false,false,false,false,false,false,false,false,false,false,false,false,false,false,false,false,false,false,false,false,false,false,false,false,false,false,false,false,false] (by kernel_rfl) rfl rfl ⟨(blk_cell BK322.out 0).trans rfl,(blk_cell BK322.out 1).trans rfl,(blk_cell BK322.out 2).trans rfl,(blk_cell BK322.out 3).trans rfl⟩ (fun hHeld => ?_);refine with_tabW spec_l20Good.tab5 spec_l20Good.bits5 (fun HT_ HW_ => ?_)
       generalize w25.drew = w26 at BK322 HB hHeld ⊢
       refine pure_ (i:=0) (N:=some 16) (v:=?_) (a':=?_) #[true,false,false,false,false,false,false,false,false,false,false,false,false,false,false,false,false,false,false,false,false,false,false,false,false,false,false,false,false,false,false] rfl rfl (any_of HT_.out (by kernel_rfl)) (fun _ _ _ h => h) (Or.inl ⟨by rfl, ?_⟩) ?_ ?_
       rotate_left
       ·intro w'
        go_simp
        with_reducible rfl
       rotate_left
       ·simp only [Act.put,sA_,s0_,s1_,i64_w,i32_w]
        rfl
       refine take_ (i:=1) (N:=some 17) (v:=?_) (a':=?_) #[true,true,false,false,false,false,false,false,false,false,false,false,false,false,false,false,false,false,false,false,false,false,false,false,false,false,false,false,false,false,false] rfl rfl (take_ofW HT_.out HW_.out (by kernel_rfl)) (fun _ _ _ h => h) (Or.inl ⟨by rfl, ?_⟩) hHeld ?_ ?_
       rotate_left
       ·rintro w' ⟨s0,s1,s2,s3⟩
        go_simp
        with_reducible rfl
       rotate_left
       ·simp only [Act.put,sA_,s0_,s1_,i64_w,i32_w]
        rfl
       refine one_ (i:=2) (N:=some 18) #[true,true,true,false,false,false,false,false,false,false,false,false,false,false,false,false,false,false,false,false,false,false,false,false,false,false,false,false,false,false,false] rfl rfl (one_of HT_.out (by kernel_rfl)) (by decide) (fun K hK => ?_)
       refine goes_ Try.func46 (by kernel_rfl) rfl #[.int .i64 ((rd_T52 l0 x3_1).f0), .int .i64 0, .int .i64 240] (by rfl) rfl rfl (by (try simp only [List.map_toArray,List.map_cons,List.map_nil]);rfl) ?_
       with_reducible refine (spec_l1In.calls ((rd_T52 l0 x3_1).f0) 0 240 false _ A7.out).mono ?_
       rintro e w' ⟨rfl,⟨nd,rfl⟩⟩
       refine ⟨_,rfl, ?_⟩
       refine hK.out _ _ ⟨(blk_cell BK322.out 0).trans rfl,(blk_cell BK322.out 1).trans rfl,(blk_cell BK322.out 2).trans rfl,(blk_cell BK322.out 3).trans rfl⟩ (fun hHeld => ?_)
       clear hK K
       refine norm_ (a':=?_) ?_ ?_
       rotate_left
       ·show Act.put _ (some 18) _ = _
        simp only [Act.put,sA_,s0_,s1_,i64_w,i32_w]
        rfl
       refine pure_ (i:=3) (N:=some 19) (v:=?_) (a':=?_) #[true,true,true,true,false,false,false,false,false,false,false,false,false,false,false,false,false,false,false,false,false,false,false,false,false,false,false,false,false,false,false] rfl rfl (any_of HT_.out (by kernel_rfl)) (fun _ _ _ h => h) (Or.inl ⟨by rfl, ?_⟩) ?_ ?_
       rotate_left
       ·intro w'
        go_simp
        with_reducible rfl
       rotate_left
       ·simp only [Act.put,sA_,s0_,s1_,i64_w,i32_w]
        rfl
       refine pure_ (i:=4) (N:=some 20) (v:=?_) (a':=?_) #[true,true,true,true,true,false,false,false,false,false,false,false,false,false,false,false,false,false,false,false,false,false,false,false,false,false,false,false,false,false,false] rfl rfl (any_of HT_.out (by kernel_rfl)) (fun _ _ _ h => h) (Or.inl ⟨by rfl, ?_⟩) ?_ ?_
       rotate_left
       ·intro w'
        go_simp
        with_reducible rfl
       rotate_left
       ·simp only [Act.put,sA_,s0_,s1_,i64_w,i32_w]
        rfl
       refine pure_ (i:=5) (N:=some 21) (v:=undef) (a':=?_) #[true,true,true,true,true,true,false,false,false,false,false,false,false,false,false,false,false,false,false,false,false,false,false,false,false,false,false,false,false,false,false] rfl rfl (any_of HT_.out (by kernel_rfl)) (fun _ _ _ h => h) (Or.inr ⟨by rfl,rfl⟩) ?_ ?_
       rotate_left
       ·simp only [Act.put,sA_,s0_,s1_,i64_w,i32_w]
        rfl
       refine pure_ (i:=6) (N:=some 22) (v:=undef) (a':=?_) #[true,true,true,true,true,true,true,false,false,false,false,false,false,false,false,false,false,false,false,false,false,false,false,false,false,false,false,false,false,false,false] rfl rfl (any_of HT_.out (by kernel_rfl)) (fun _ _ _ h => h) (Or.inr ⟨by rfl,rfl⟩) ?_ ?_
       rotate_left
       ·simp only [Act.put,sA_,s0_,s1_,i64_w,i32_w]
        rfl
       refine pure_ (i:=7) (N:=some 23) (v:=undef) (a':=?_) #[true,true,true,true,true,true,true,true,false,false,false,false,false,false,false,false,false,false,false,false,false,false,false,false,false,false,false,false,false,false,false] rfl rfl (any_of HT_.out (by kernel_rfl)) (fun _ _ _ h => h) (Or.inr ⟨by rfl,rfl⟩) ?_ ?_
       rotate_left
       ·simp only [Act.put,sA_,s0_,s1_,i64_w,i32_w]
        rfl
       refine pure_ (i:=8) (N:=some 24) (v:=undef) (a':=?_) #[true,true,true,true,true,true,true,true,true,false,false,false,false,false,false,false,false,false,false,false,false,false,false,false,false,false,false,false,false,false,false] rfl rfl (any_of HT_.out (by kernel_rfl)) (fun _ _ _ h => h) (Or.inr ⟨by rfl,rfl⟩) ?_ ?_
       rotate_left
       ·simp only [Act.put,sA_,s0_,s1_,i64_w,i32_w]
        rfl
       refine pure_ (i:=9) (N:=some 25) (v:=?_) (a':=?_) #[true,true,true,true,true,true,true,true,true,true,false,false,false,false,false,false,false,false,false,false,false,false,false,false,false,false,false,false,false,false,false] rfl rfl (any_of HT_.out (by kernel_rfl)) (fun _ _ _ h => h) (Or.inl ⟨by rfl, ?_⟩) ?_ ?_
       rotate_left
       ·intro w'
        go_simp
        with_reducible rfl
       rotate_left
       ·simp only [Act.put,sA_,s0_,s1_,i64_w,i32_w]
        rfl
       refine pure_ (i:=10) (N:=some 26) (v:=?_) (a':=?_) #[true,true,true,true,true,true,true,true,true,true,true,false,false,false,false,false,false,false,false,false,false,false,false,false,false,false,false,false,false,false,false] rfl rfl (any_of HT_.out (by kernel_rfl)) (fun _ _ _ h => h) (Or.inl ⟨by rfl, ?_⟩) ?_ ?_
       rotate_left
       ·intro w'
        go_simp
        with_reducible rfl
       rotate_left
       ·simp only [Act.put,sA_,s0_,s1_,i64_w,i32_w]
        rfl
       refine pure_ (i:=11) (N:=some 27) (v:=undef) (a':=?_) #[true,true,true,true,true,true,true,true,true,true,true,true,false,false,false,false,false,false,false,false,false,false,false,false,false,false,false,false,false,false,false] rfl rfl (any_of HT_.out (by kernel_rfl)) (fun _ _ _ h => h) (Or.inr ⟨by rfl,rfl⟩) ?_ ?_
       rotate_left
       ·simp only [Act.put,sA_,s0_,s1_,i64_w,i32_w]
        rfl
       refine pure_ (i:=12) (N:=some 28) (v:=undef) (a':=?_) #[true,true,true,true,true,true,true,true,true,true,true,true,true,false,false,false,false,false,false,false,false,false,false,false,false,false,false,false,false,false,false] rfl rfl (any_of HT_.out (by kernel_rfl)) (fun _ _ _ h => h) (Or.inr ⟨by rfl,rfl⟩) ?_ ?_
       rotate_left
       ·simp only [Act.put,sA_,s0_,s1_,i64_w,i32_w]
        rfl
       refine pure_ (i:=13) (N:=some 29) (v:=undef) (a':=?_) #[true,true,true,true,true,true,true,true,true,true,true,true,true,true,false,false,false,false,false,false,false,false,false,false,false,false,false,false,false,false,false] rfl rfl (any_of HT_.out (by kernel_rfl)) (fun _ _ _ h => h) (Or.inr ⟨by rfl,rfl⟩) ?_ ?_
       rotate_left
       ·simp only [Act.put,sA_,s0_,s1_,i64_w,i32_w]
        rfl
       refine pure_ (i:=14) (N:=some 30) (v:=undef) (a':=?_) #[true,true,true,true,true,true,true,true,true,true,true,true,true,true,true,false,false,false,false,false,false,false,false,false,false,false,false,false,false,false,false] rfl rfl (any_of HT_.out (by kernel_rfl)) (fun _ _ _ h => h) (Or.inr ⟨by rfl,rfl⟩) ?_ ?_
       rotate_left
       ·simp only [Act.put,sA_,s0_,s1_,i64_w,i32_w]
        rfl
       refine pure_ (i:=15) (N:=some 31) (v:=?_) (a':=?_) #[true,true,true,true,true,true,true,true,true,true,true,true,true,true,true,true,false,false,false,false,false,false,false,false,false,false,false,false,false,false,false] rfl rfl (any_of HT_.out (by kernel_rfl)) (fun _ _ _ h => h) (Or.inl ⟨by rfl, ?_⟩) ?_ ?_
       rotate_left
       ·intro w'
        go_simp
        with_reducible rfl
       rotate_left
       ·simp only [Act.put,sA_,s0_,s1_,i64_w,i32_w]
        rfl
       refine pure_ (i:=16) (N:=some 32) (v:=?_) (a':=?_) #[true,true,true,true,true,true,true,true,true,true,true,true,true,true,true,true,true,false,false,false,false,false,false,false,false,false,false,false,false,false,false] rfl rfl (any_of HT_.out (by kernel_rfl)) (fun _ _ _ h => h) (Or.inl ⟨by rfl, ?_⟩) ?_ ?_
       rotate_left
       ·intro w'
        go_simp
        with_reducible rfl
       rotate_left
       ·simp only [Act.put,sA_,s0_,s1_,i64_w,i32_w]
        rfl
       refine pure_ (i:=17) (N:=some 33) (v:=undef) (a':=?_) #[true,true,true,true,true,true,true,true,true,true,true,true,true,true,true,true,true,true,false,false,false,false,false,false,false,false,false,false,false,false,false] rfl rfl (any_of HT_.out (by kernel_rfl)) (fun _ _ _ h => h) (Or.inr ⟨by rfl,rfl⟩) ?_ ?_
       rotate_left
       ·simp only [Act.put,sA_,s0_,s1_,i64_w,i32_w]
        rfl
       refine pure_ (i:=18) (N:=some 34) (v:=undef) (a':=?_) #[true,true,true,true,true,true,true,true,true,true,true,true,true,true,true,true,true,true,true,false,false,false,false,false,false,false,false,false,false,false,false] rfl rfl (any_of HT_.out (by kernel_rfl)) (fun _ _ _ h => h) (Or.inr ⟨by rfl,rfl⟩) ?_ ?_
       rotate_left
       ·simp only [Act.put,sA_,s0_,s1_,i64_w,i32_w]
        rfl
       refine pure_ (i:=19) (N:=some 35) (v:=undef) (a':=?_) #[true,true,true,true,true,true,true,true,true,true,true,true,true,true,true,true,true,true,true,true,false,false,false,false,false,false,false,false,false,false,false] rfl rfl (any_of HT_.out (by kernel_rfl)) (fun _ _ _ h => h) (Or.inr ⟨by rfl,rfl⟩) ?_ ?_
       rotate_left
       ·simp only [Act.put,sA_,s0_,s1_,i64_w,i32_w]
        rfl
       refine pure_ (i:=20) (N:=some 36) (v:=undef) (a':=?_) #[true,true,true,true,true,true,true,true,true,true,true,true,true,true,true,true,true,true,true,true,true,false,false,false,false,false,false,false,false,false,false] rfl rfl (any_of HT_.out (by kernel_rfl)) (fun _ _ _ h => h) (Or.inr ⟨by rfl,rfl⟩) ?_ ?_
       rotate_left
       ·simp only [Act.put,sA_,s0_,s1_,i64_w,i32_w]
        rfl
       refine pure_ (i:=21) (N:=some 37) (v:=undef) (a':=?_) #[true,true,true,true,true,true,true,true,true,true,true,true,true,true,true,true,true,true,true,true,true,true,false,false,false,false,false,false,false,false,false] rfl rfl (any_of HT_.out (by kernel_rfl)) (fun _ _ _ h => h) (Or.inr ⟨by rfl,rfl⟩) ?_ ?_
       rotate_left
       ·simp only [Act.put,sA_,s0_,s1_,i64_w,i32_w]
        rfl
       refine pure_ (i:=22) (N:=some 38) (v:=undef) (a':=?_) #[true,true,true,true,true,true,true,true,true,true,true,true,true,true,true,true,true,true,true,true,true,true,true,false,false,false,false,false,false,false,false] rfl rfl (any_of HT_.out (by kernel_rfl)) (fun _ _ _ h => h) (Or.inr ⟨by rfl,rfl⟩) ?_ ?_
       rotate_left
       ·simp only [Act.put,sA_,s0_,s1_,i64_w,i32_w]
        rfl
       refine pure_ (i:=23) (N:=some 39) (v:=undef) (a':=?_) #[true,true,true,true,true,true,true,true,true,true,true,true,true,true,true,true,true,true,true,true,true,true,true,true,false,false,false,false,false,false,false] rfl rfl (any_of HT_.out (by kernel_rfl)) (fun _ _ _ h => h) (Or.inr ⟨by rfl,rfl⟩) ?_ ?_
       rotate_left
       ·simp only [Act.put,sA_,s0_,s1_,i64_w,i32_w]
        rfl
       refine pure_ (i:=24) (N:=some 40) (v:=undef) (a':=?_) #[true,true,true,true,true,true,true,true,true,true,true,true,true,true,true,true,true,true,true,true,true,true,true,true,true,false,false,false,false,false,false] rfl rfl (any_of HT_.out (by kernel_rfl)) (fun _ _ _ h => h) (Or.inr ⟨by rfl,rfl⟩) ?_ ?_
       rotate_left
       ·simp only [Act.put,sA_,s0_,s1_,i64_w,i32_w]
        rfl
       refine pure_ (i:=25) (N:=some 41) (v:=undef) (a':=?_) #[true,true,true,true,true,true,true,true,true,true,true,true,true,true,true,true,true,true,true,true,true,true,true,true,true,true,false,false,false,false,false] rfl rfl (any_of HT_.out (by kernel_rfl)) (fun _ _ _ h => h) (Or.inr ⟨by rfl,rfl⟩) ?_ ?_
       rotate_left
       ·simp only [Act.put,sA_,s0_,s1_,i64_w,i32_w]
        rfl
       refine pure_ (i:=26) (N:=some 42) (v:=undef) (a':=?_) #[true,true,true,true,true,true,true,true,true,true,true,true,true,true,true,true,true,true,true,true,true,true,true,true,true,true,true,false,false,false,false] rfl rfl (any_of HT_.out (by kernel_rfl)) (fun _ _ _ h => h) (Or.inr ⟨by rfl,rfl⟩) ?_ ?_
       rotate_left
       ·simp only [Act.put,sA_,s0_,s1_,i64_w,i32_w]
        rfl
       refine pure_ (i:=27) (N:=some 43) (v:=undef) (a':=?_) #[true,true,true,true,true,true,true,true,true,true,true,true,true,true,true,true,true,true,true,true,true,true,true,true,true,true,true,true,false,false,false] rfl rfl (any_of HT_.out (by kernel_rfl)) (fun _ _ _ h => h) (Or.inr ⟨by rfl,rfl⟩) ?_ ?_
       rotate_left
       ·simp only [Act.put,sA_,s0_,s1_,i64_w,i32_w]
        rfl
       refine pure_ (i:=28) (N:=some 44) (v:=undef) (a':=?_) #[true,true,true,true,true,true,true,true,true,true,true,true,true,true,true,true,true,true,true,true,true,true,true,true,true,true,true,true,true,false,false] rfl rfl (any_of HT_.out (by kernel_rfl)) (fun _ _ _ h => h) (Or.inr ⟨by rfl,rfl⟩) ?_ ?_
       rotate_left
       ·simp only [Act.put,sA_,s0_,s1_,i64_w,i32_w]
        rfl
       refine pure_ (i:=29) (N:=some 45) (v:=undef) (a':=?_) #[true,true,true,true,true,true,true,true,true,true,true,true,true,true,true,true,true,true,true,true,true,true,true,true,true,true,true,true,true,true,false] rfl rfl (any_of HT_.out (by kernel_rfl)) (fun _ _ _ h => h) (Or.inr ⟨by rfl,rfl⟩) ?_ ?_
       rotate_left
       ·simp only [Act.put,sA_,s0_,s1_,i64_w,i32_w]
        rfl
       refine pure_ (i:=30) (N:=some 46) (v:=?_) (a':=?_) #[true,true,true,true,true,true,true,true,true,true,true,true,true,true,true,true,true,true,true,true,true,true,true,true,true,true,true,true,true,true,true] rfl rfl (any_of HT_.out (by kernel_rfl)) (fun _ _ _ h => h) (Or.inl ⟨by rfl, ?_⟩) ?_ ?_
       rotate_left
       ·intro w'
        go_simp
        with_reducible rfl
       rotate_left
       ·simp only [Act.put,sA_,s0_,s1_,i64_w,i32_w]
        rfl
       refine done_ (done_of HT_.out (by kernel_rfl)) ?_
       try go_wp2
       go_meet
       case rel => exact ⟨_,(true),(by rfl),H',⟨by have:=HK1.out;omega⟩,⟨by (with_reducible repeat (refine blk_drewN ?_ _));exact BK322.out⟩,⟨by repeat ((with_reducible first | exact HB.out | apply pw_below_drewN))⟩⟩
     case rest =>
      clear HC4
      try clear c1
      try clear p2
      try clear c3
      try clear c4
      try clear c8
      try clear c10
      obtain ⟨kq,x46_3,rfl,HA,HJ3,BK322,HB⟩ := hcut
      cases kq with
      | zero => exact absurd HA.out (by simp [spec_l20Good.j1])
      | succ kj3 =>
       have H:=HA.out
       clear HA
       simp only [spec_l20Good.j1] at H
       by_cases c27 : x46_3 = true
       ·subst c27
        have H1 : (some false) = some r:=by rw [if_pos rfl] at H;exact H
        clear H
        have H:=H1
        clear H1
        obtain rfl:=Option.some.inj H
        go_wp2
        go_ret
        exact ⟨by rfl,by exact HB.out⟩
       ·replace c27:=Bool.eq_false_iff.mpr c27
        subst c27
        have H1 : ((spec_l20At.f kj3 l0 x3_1 ((rd_T52 l0 x3_1).f1)).bind fun t327 => (if ((rd_T52 l0 x3_1).f2) = true then (if (Go.bits .and .i64 t327 ((rd_T52 l0 x3_1).f3)) = 0 then (spec_l20Good.l0 kj3 l0 (wrap64 (x3_1 + 1))) else (some false)) else (if (Go.bits .and .i64 t327 ((rd_T52 l0 x3_1).f3)) = ((rd_T52 l0 x3_1).f3) then (spec_l20Good.l0 kj3 l0 (wrap64 (x3_1 + 1))) else (some false)))) = some r:=by rw [if_neg (show ¬ (false = true) by decide)] at H;exact H
        clear H
        have H:=H1
        clear H1
        replace H:=Option.bind_eq_some_iff.mp H
        obtain ⟨t327,A280,H⟩ := H
        replace H : (if ((rd_T52 l0 x3_1).f2) = true then (if (Go.bits .and .i64 t327 ((rd_T52 l0 x3_1).f3)) = 0 then (spec_l20Good.l0 kj3 l0 (wrap64 (x3_1 + 1))) else (some false)) else (if (Go.bits .and .i64 t327 ((rd_T52 l0 x3_1).f3)) = ((rd_T52 l0 x3_1).f3) then (spec_l20Good.l0 kj3 l0 (wrap64 (x3_1 + 1))) else (some false))) = some r:=H
        have A28:=Aside0.mk A280
        clear A280
        by_cases c29 : ((rd_T52 l0 x3_1).f2) = true
        ·rw [if_pos c29] at H
         have c29b0 : ((rd_T52 l0 x3_1).f2) = true:=c29
         clear c29
         by_cases c30 : (Go.bits .and .i64 t327 ((rd_T52 l0 x3_1).f3)) = 0
         ·rw [if_pos c30] at H
          have c30b0 : ((Go.bits .and .i64 t327 ((rd_T52 l0 x3_1).f3)) == 0) = true:=beq_iff_eq.mpr c30
          have c30b1 : ((Go.bits .and .i64 t327 ((rd_T52 l0 x3_1).f3)) != 0) = false:=bne_eq_false_iff_eq.mpr c30
          clear c30
          have H':=Aside0.mk H
          clear H
          have hcz31_0 : wc.cell? ⟨gb322,0,none⟩ = some (.int .i64 ((rd_T52 l0 x3_1).f0)):=(blk_cell BK322.out 0).trans rfl
          have hcz31_1 : wc.cell? ⟨gb322,1,none⟩ = some (.string ((rd_T52 l0 x3_1).f1)):=(blk_cell BK322.out 1).trans rfl
          have hcz31_2 : wc.cell? ⟨gb322,2,none⟩ = some (.bool ((rd_T52 l0 x3_1).f2)):=(blk_cell BK322.out 2).trans rfl
          have hcz31_3 : wc.cell? ⟨gb322,3,none⟩ = some (.int .i64 ((rd_T52 l0 x3_1).f3)):=(blk_cell BK322.out 3).trans rfl
          have hfz31_0:=blk_frozen BK322.out 0
          have hfz31_1:=blk_frozen BK322.out 1
          have hfz31_2:=blk_frozen BK322.out 2
          have hfz31_3:=blk_frozen BK322.out 3
          go_wp2_with (((with_reducible refine gate_callee (f:=35) rfl ?_);refine goesL_ (some 51) rfl rfl Try.func35 (by kernel_rfl) rfl #[.slice (some ad321) l0.length c0, .int .i64 x3_1, .string ((rd_T52 l0 x3_1).f1)] rfl (by (try simp only [List.map_toArray,List.map_cons,List.map_nil]);rfl) ?_;(with_reducible refine (spec_l20At.calls kj3 _ _ l0 x3_1 ((rd_T52 l0 x3_1).f1) t327 _ ?side1 ?side2 A28.out).mono ?_);(case side1 => repeat (exact (Kd.C_below HR0.out HB.out)));(case side2 => exact HC0.out);rintro e w' ⟨rfl,⟨nd,rfl⟩⟩;refine ⟨_,rfl, ?_⟩))
          go_roundg kj3
          case measure => have:=HK1.out;have:=HJ3.out;omega
          case rel => exact ⟨(wrap64 (x3_1 + 1)),(by rfl),H',⟨by have:=HK1.out;have:=HJ3.out;omega⟩,⟨by repeat ((with_reducible first | exact HB.out | apply pw_below_drewN))⟩⟩
         ·rw [if_neg c30] at H
          have c30b0 : ((Go.bits .and .i64 t327 ((rd_T52 l0 x3_1).f3)) == 0) = false:=beq_eq_false_iff_ne.mpr c30
          have c30b1 : ((Go.bits .and .i64 t327 ((rd_T52 l0 x3_1).f3)) != 0) = true:=bne_iff_ne.mpr c30
          obtain rfl:=Option.some.inj H
          have hcz32_0 : wc.cell? ⟨gb322,0,none⟩ = some (.int .i64 ((rd_T52 l0 x3_1).f0)):=(blk_cell BK322.out 0).trans rfl
          have hcz32_1 : wc.cell? ⟨gb322,1,none⟩ = some (.string ((rd_T52 l0 x3_1).f1)):=(blk_cell BK322.out 1).trans rfl
          have hcz32_2 : wc.cell? ⟨gb322,2,none⟩ = some (.bool ((rd_T52 l0 x3_1).f2)):=(blk_cell BK322.out 2).trans rfl
          have hcz32_3 : wc.cell? ⟨gb322,3,none⟩ = some (.int .i64 ((rd_T52 l0 x3_1).f3)):=(blk_cell BK322.out 3).trans rfl
          have hfz32_0:=blk_frozen BK322.out 0
          have hfz32_1:=blk_frozen BK322.out 1
          have hfz32_2:=blk_frozen BK322.out 2
          have hfz32_3:=blk_frozen BK322.out 3
          go_wp2_with (((with_reducible refine gate_callee (f:=35) rfl ?_);refine goesL_ (some 51) rfl rfl Try.func35 (by kernel_rfl) rfl #[.slice (some ad321) l0.length c0, .int .i64 x3_1, .string ((rd_T52 l0 x3_1).f1)] rfl (by (try simp only [List.map_toArray,List.map_cons,List.map_nil]);rfl) ?_;(with_reducible refine (spec_l20At.calls kj3 _ _ l0 x3_1 ((rd_T52 l0 x3_1).f1) t327 _ ?side1 ?side2 A28.out).mono ?_);(case side1 => repeat (exact (Kd.C_below HR0.out HB.out)));(case side2 => exact HC0.out);rintro e w' ⟨rfl,⟨nd,rfl⟩⟩;refine ⟨_,rfl, ?_⟩))
          go_ret
          exact ⟨by rfl,by repeat ((with_reducible first | exact HB.out | apply pw_below_drewN))⟩
        ·rw [if_neg c29] at H
         have c29b0 : ((rd_T52 l0 x3_1).f2) = false:=by simpa using c29
         clear c29
         by_cases c33 : (Go.bits .and .i64 t327 ((rd_T52 l0 x3_1).f3)) = ((rd_T52 l0 x3_1).f3)
         ·rw [if_pos c33] at H
          have c33b0 : ((Go.bits .and .i64 t327 ((rd_T52 l0 x3_1).f3)) == ((rd_T52 l0 x3_1).f3)) = true:=beq_iff_eq.mpr c33
          have c33b1 : ((Go.bits .and .i64 t327 ((rd_T52 l0 x3_1).f3)) != ((rd_T52 l0 x3_1).f3)) = false:=bne_eq_false_iff_eq.mpr c33
          clear c33
          have H':=Aside0.mk H
          clear H
          have hcz34_0 : wc.cell? ⟨gb322,0,none⟩ = some (.int .i64 ((rd_T52 l0 x3_1).f0)):=(blk_cell BK322.out 0).trans rfl
          have hcz34_1 : wc.cell? ⟨gb322,1,none⟩ = some (.string ((rd_T52 l0 x3_1).f1)):=(blk_cell BK322.out 1).trans rfl
          have hcz34_2 : wc.cell? ⟨gb322,2,none⟩ = some (.bool ((rd_T52 l0 x3_1).f2)):=(blk_cell BK322.out 2).trans rfl
          have hcz34_3 : wc.cell? ⟨gb322,3,none⟩ = some (.int .i64 ((rd_T52 l0 x3_1).f3)):=(blk_cell BK322.out 3).trans rfl
          have hfz34_0:=blk_frozen BK322.out 0
          have hfz34_1:=blk_frozen BK322.out 1
          have hfz34_2:=blk_frozen BK322.out 2
          have hfz34_3:=blk_frozen BK322.out 3
          go_wp2_with (((with_reducible refine gate_callee (f:=35) rfl ?_);refine goesL_ (some 51) rfl rfl Try.func35 (by kernel_rfl) rfl #[.slice (some ad321) l0.length c0, .int .i64 x3_1, .string ((rd_T52 l0 x3_1).f1)] rfl (by (try simp only [List.map_toArray,List.map_cons,List.map_nil]);rfl) ?_;(with_reducible refine (spec_l20At.calls kj3 _ _ l0 x3_1 ((rd_T52 l0 x3_1).f1) t327 _ ?side1 ?side2 A28.out).mono ?_);(case side1 => repeat (exact (Kd.C_below HR0.out HB.out)));(case side2 => exact HC0.out);rintro e w' ⟨rfl,⟨nd,rfl⟩⟩;refine ⟨_,rfl, ?_⟩))
          go_roundg kj3
          case measure => have:=HK1.out;have:=HJ3.out;omega
          case rel => exact ⟨(wrap64 (x3_1 + 1)),(by rfl),H',⟨by have:=HK1.out;have:=HJ3.out;omega⟩,⟨by repeat ((with_reducible first | exact HB.out | apply pw_below_drewN))⟩⟩
         ·rw [if_neg c33] at H
          have c33b0 : ((Go.bits .and .i64 t327 ((rd_T52 l0 x3_1).f3)) == ((rd_T52 l0 x3_1).f3)) = false:=beq_eq_false_iff_ne.mpr c33
          have c33b1 : ((Go.bits .and .i64 t327 ((rd_T52 l0 x3_1).f3)) != ((rd_T52 l0 x3_1).f3)) = true:=bne_iff_ne.mpr c33
          obtain rfl:=Option.some.inj H
          have hcz35_0 : wc.cell? ⟨gb322,0,none⟩ = some (.int .i64 ((rd_T52 l0 x3_1).f0)):=(blk_cell BK322.out 0).trans rfl
          have hcz35_1 : wc.cell? ⟨gb322,1,none⟩ = some (.string ((rd_T52 l0 x3_1).f1)):=(blk_cell BK322.out 1).trans rfl
          have hcz35_2 : wc.cell? ⟨gb322,2,none⟩ = some (.bool ((rd_T52 l0 x3_1).f2)):=(blk_cell BK322.out 2).trans rfl
          have hcz35_3 : wc.cell? ⟨gb322,3,none⟩ = some (.int .i64 ((rd_T52 l0 x3_1).f3)):=(blk_cell BK322.out 3).trans rfl
          have hfz35_0:=blk_frozen BK322.out 0
          have hfz35_1:=blk_frozen BK322.out 1
          have hfz35_2:=blk_frozen BK322.out 2
          have hfz35_3:=blk_frozen BK322.out 3
          go_wp2_with (((with_reducible refine gate_callee (f:=35) rfl ?_);refine goesL_ (some 51) rfl rfl Try.func35 (by kernel_rfl) rfl #[.slice (some ad321) l0.length c0, .int .i64 x3_1, .string ((rd_T52 l0 x3_1).f1)] rfl (by (try simp only [List.map_toArray,List.map_cons,List.map_nil]);rfl) ?_;(with_reducible refine (spec_l20At.calls kj3 _ _ l0 x3_1 ((rd_T52 l0 x3_1).f1) t327 _ ?side1 ?side2 A28.out).mono ?_);(case side1 => repeat (exact (Kd.C_below HR0.out HB.out)));(case side2 => exact HC0.out);rintro e w' ⟨rfl,⟨nd,rfl⟩⟩;refine ⟨_,rfl, ?_⟩))
          go_ret
          exact ⟨by rfl,by repeat ((with_reducible first | exact HB.out | apply pw_below_drewN))⟩
    ·rw [if_neg c3] at H
     exact absurd H (by simp)
   ·rw [if_neg c2] at H
    have c2b0 : decide (x3_1 < (l0.length : Int)) = false:=decide_eq_false c2
    clear c2
    obtain rfl:=Option.some.inj H
    go_wp2
    go_ret
    exact ⟨by rfl,by exact HB.out⟩

end Go.Proofs.Yteebkbikpamkmaa.PFnHolds
