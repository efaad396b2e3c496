-- Written by a program of this session, over the kit's print (wip/xprint.py)
import Derived.Test.YteebkbikpamkmaaPFnHoldsx0
import Derived.Test.YteebkbikpamkmaaPFnHoldsx4
namespace Go.Proofs.Yteebkbikpamkmaa.PFnHolds
open Go.RowKit Go.Proofs.YteebkbikpamkmaaW.PrintWords Go.Proofs.YteebkbikpamkmaaW.PrintLast Go.Proofs.YteebkbikpamkmaaW.PrintMore
attribute [local go_sem] max2_int min2_int max_two min_two max_three min_three max_four min_four   -- for this text's walks alone
set_option linter.unusedVariables false
set_option linter.unusedSimpArgs false

/-! ### impl_conflictIn: function 36 -/
mutual
def impl_conflictIn.l0 : Nat → List (S52) → (ByteArray → Int) → List (S52) → Int → Int → Option (Int)
 | 0,_,_,_,_,_ => none
 | k + 1,x0,x3,x8,x9,x10 => if x10 < x9 then (if 0 ≤ x10 then (if x10 < (x8.length : Int) then (if x10 = 20 then (impl_conflictIn.j1 k x0 x3 x10 x8 x9 x10 true ((rd_T52 x8 x10).f0) ((rd_T52 x8 x10).f1) ((rd_T52 x8 x10).f2) ((rd_T52 x8 x10).f3)) else ((impl_within.f ((rd_T52 x8 x10).f0) 0 240).bind fun t278 => (if t278 = true then (if x10 > 0 then (if 0 ≤ (wrap64 (x10 - 1)) then (if (wrap64 (x10 - 1)) < (x0.length : Int) then (if ((rd_T52 x8 x10).f0) < ((rd_T52 x0 (wrap64 (x10 - 1))).f0) then (impl_conflictIn.j1 k x0 x3 x10 x8 x9 x10 true ((rd_T52 x8 x10).f0) ((rd_T52 x8 x10).f1) ((rd_T52 x8 x10).f2) ((rd_T52 x8 x10).f3)) else ((impl_IsValidId.f k ((rd_T52 x8 x10).f1)).bind fun t280 => (if t280 = true then ((impl_within.f ((rd_T52 x8 x10).f3) 1 15).bind fun t281 => (impl_conflictIn.j1 k x0 x3 x10 x8 x9 x10 (!t281) ((rd_T52 x8 x10).f0) ((rd_T52 x8 x10).f1) ((rd_T52 x8 x10).f2) ((rd_T52 x8 x10).f3))) else (impl_conflictIn.j1 k x0 x3 x10 x8 x9 x10 true ((rd_T52 x8 x10).f0) ((rd_T52 x8 x10).f1) ((rd_T52 x8 x10).f2) ((rd_T52 x8 x10).f3))))) else (none)) else (none)) else ((impl_IsValidId.f k ((rd_T52 x8 x10).f1)).bind fun t282 => (if t282 = true then ((impl_within.f ((rd_T52 x8 x10).f3) 1 15).bind fun t283 => (impl_conflictIn.j1 k x0 x3 x10 x8 x9 x10 (!t283) ((rd_T52 x8 x10).f0) ((rd_T52 x8 x10).f1) ((rd_T52 x8 x10).f2) ((rd_T52 x8 x10).f3))) else (impl_conflictIn.j1 k x0 x3 x10 x8 x9 x10 true ((rd_T52 x8 x10).f0) ((rd_T52 x8 x10).f1) ((rd_T52 x8 x10).f2) ((rd_T52 x8 x10).f3))))) else (impl_conflictIn.j1 k x0 x3 x10 x8 x9 x10 true ((rd_T52 x8 x10).f0) ((rd_T52 x8 x10).f1) ((rd_T52 x8 x10).f2) ((rd_T52 x8 x10).f3))))) else (none)) else (none)) else (some (x0.length : Int))
def impl_conflictIn.j1 : Nat → List (S52) → (ByteArray → Int) → Int → List (S52) → Int → Int → Bool → Int → ByteArray → Bool → Int → Option (Int)
 | 0,_,_,_,_,_,_,_,_,_,_,_ => none
 | k + 1,x0,x3,x4,x8,x9,x10,x49,x278000,x278001,x278002,x278003 => if x49 = true then (some x4) else ((mlook.f x3 x278001).bind fun t284 => (if x278002 = true then (if (Go.bits .and .i64 t284 x278003) = 0 then ((mput.f x3 x278001 (Go.bits .or .i64 t284 x278003)).bind fun t285 => (impl_conflictIn.l0 k x0 t285 x8 x9 (wrap64 (x10 + 1)))) else (some x4)) else (if (Go.bits .and .i64 t284 x278003) = x278003 then ((mput.f x3 x278001 (Go.bits .andNot .i64 t284 x278003)).bind fun t286 => (impl_conflictIn.l0 k x0 t286 x8 x9 (wrap64 (x10 + 1)))) else (some x4))))
end
def impl_conflictIn.f (k : Nat) (l0 : List (S52)) : Option (Int):=impl_conflictIn.l0 k l0 (fun _ => 0) l0 (l0.length : Int) 0
theorem impl_conflictIn.mono_l : ∀ k,(∀ y0 y1 y2 y3 y4,LeO (impl_conflictIn.l0 k y0 y1 y2 y3 y4) (impl_conflictIn.l0 (k + 1) y0 y1 y2 y3 y4)) ∧ (∀ y0 y1 y2 y3 y4 y5 y6 y7 y8 y9 y10,LeO (impl_conflictIn.j1 k y0 y1 y2 y3 y4 y5 y6 y7 y8 y9 y10) (impl_conflictIn.j1 (k + 1) y0 y1 y2 y3 y4 y5 y6 y7 y8 y9 y10))
 | 0 => ⟨fun _ _ _ _ _ r h => by simp [impl_conflictIn.l0] at h,fun _ _ _ _ _ _ _ _ _ _ _ r h => by simp [impl_conflictIn.j1] at h⟩
 | k + 1 => by
  obtain ⟨ih0,ih1⟩ := impl_conflictIn.mono_l k
  refine ⟨?_, ?_⟩
  ·intro y0 y1 y2 y3 y4
   unfold impl_conflictIn.l0
   repeat' first
   | (with_reducible exact ih0 _ _ _ _ _)
   | (with_reducible exact ih1 _ _ _ _ _ _ _ _ _ _ _)
   | (with_reducible exact impl_IsValidId.mono _ _)
   | (with_reducible exact LeO.refl _)
   | (with_reducible exact LeO.none _)
   | (with_reducible refine LeO.ite ?_ ?_)
   | (with_reducible refine LeO.bind ?_ (fun _ => ?_))
   | exact ih0 _ _ _ _ _
   | exact ih1 _ _ _ _ _ _ _ _ _ _ _
   | exact impl_IsValidId.mono _ _
   | exact LeO.none _
   | refine LeO.ite ?_ ?_
   | refine LeO.bind ?_ (fun _ => ?_)
  ·intro y0 y1 y2 y3 y4 y5 y6 y7 y8 y9 y10
   unfold impl_conflictIn.j1
   repeat' first
   | (with_reducible exact ih0 _ _ _ _ _)
   | (with_reducible exact ih1 _ _ _ _ _ _ _ _ _ _ _)
   | (with_reducible exact impl_IsValidId.mono _ _)
   | (with_reducible exact LeO.refl _)
   | (with_reducible exact LeO.none _)
   | (with_reducible refine LeO.ite ?_ ?_)
   | (with_reducible refine LeO.bind ?_ (fun _ => ?_))
   | exact ih0 _ _ _ _ _
   | exact ih1 _ _ _ _ _ _ _ _ _ _ _
   | exact impl_IsValidId.mono _ _
   | exact LeO.none _
   | refine LeO.ite ?_ ?_
   | refine LeO.bind ?_ (fun _ => ?_)
theorem impl_conflictIn.mono : ∀ a0 k,LeO (impl_conflictIn.f k a0) (impl_conflictIn.f (k + 1) a0):=by
 intro a0 k
 obtain ⟨ih0,ih1⟩ := impl_conflictIn.mono_l k
 unfold impl_conflictIn.f
 repeat' first
   | (with_reducible exact ih0 _ _ _ _ _)
   | (with_reducible exact ih1 _ _ _ _ _ _ _ _ _ _ _)
   | (with_reducible exact impl_IsValidId.mono _ _)
   | (with_reducible exact LeO.refl _)
   | (with_reducible exact LeO.none _)
   | (with_reducible refine LeO.ite ?_ ?_)
   | (with_reducible refine LeO.bind ?_ (fun _ => ?_))
   | exact ih0 _ _ _ _ _
   | exact ih1 _ _ _ _ _ _ _ _ _ _ _
   | exact impl_IsValidId.mono _ _
   | exact LeO.none _
   | refine LeO.ite ?_ ?_
   | refine LeO.bind ?_ (fun _ => ?_)
def impl_conflictIn.T5 : Bool × List (List Nat × List Nat):=(true,[([],[]),([0],[0]),([1],[1]),([2],[2]),([3,2],[2,3]),([4,2,2],[2,4]),([5,2],[2,5]),([2,6],[2,6]),([7,5],[7]),([8],[8]),([9,8],[8,9]),([10,8,8],[8,10]),([11],[11]),([12,11],[11,12]),([11],[11]),([11],[11]),([15,11],[11,15]),([14,16,11],[11,14,16]),([17,11],[11,17]),([18,11],[11,18]),([13,19,11],[11,13,19]),([11,20,8],[8,11,20]),([8,21],[8,21]),([22,11],[22]),([23],[23]),([24,23],[23,24]),([25,23,23],[23,25]),([26,23],[23,26]),([23,27],[23,27]),([28,26],[28]),([29],[29]),([30,29],[29,30]),([31,29,29],[29,31]),([32,29],[29,32]),([29,33],[29,33])])
def impl_conflictIn.B5 : List Nat := [0,1,3,7,15,31,63,127,255,511,1023,2047,4095,8191,4095,4095,36863,118783,249855,511999,1048575,2097151,4194303,8388607,16777215,33554431,67108863,134217727,268435455,536870911,1073741823,2147483647,4294967295,8589934591,17179869183]
theorem impl_conflictIn.tab5 : rtab .any (opsOf Try.f36 5) = impl_conflictIn.T5:=by kernel_rfl
theorem impl_conflictIn.bits5 : waitsOk impl_conflictIn.T5.2 impl_conflictIn.B5 = true:=by kernel_rfl
set_option maxHeartbeats 8000000 in
set_option maxRecDepth 100000 in
theorem impl_conflictIn.calls (k : Nat) (A0 : Option Addr) (c0 : Nat) (l0 : List (S52)) (r : Int) (w : World) (hr0 : Kd.C k52 w A0 l0.length l0) (hc0 : l0.length ≤ c0) (h : impl_conflictIn.f k l0 = some r) :
  Calls Try.prog 36 #[.slice A0 l0.length c0] w fun e w' => e = .returned (.int .i64 r) ∧ Below w.heap.size w w':=by
 have hu52:=Try.underlying52
 have HR0:=Aside0.mk hr0
 have HC0:=Aside0.mk hc0
 clear hr0 hc0
 have HB:=Aside0.mk (Below.refl w.heap.size w)
 have H : (impl_conflictIn.l0 k l0 (fun _ => 0) l0 (l0.length : Int) 0) = some r:=h
 clear h
 have H':=Aside0.mk H
 clear H
 have hmm := @run_makeMap Try.prog
 go_enter Try.func36,Try.ntmps36
 go_wp2
 go_loopg [10] k (fun kq v10 w' => ∃ (x3_1 : ByteArray → Int) (x10_1 : Int),v10 = .int .i64 x10_1 ∧ Aside0 (impl_conflictIn.l0 kq l0 x3_1 l0 (l0.length : Int) x10_1 = some r) ∧ Aside0 (kq ≤ k) ∧ Aside0 (Below w.heap.size w w') ∧ Aside0 (MapStr Try.prog 9 3 w.heap.size x10_1.toNat w' x3_1))
 case atStart => exact ⟨(fun _ => 0),(0),(by rfl),H',⟨Nat.le_refl _⟩,⟨by repeat ((with_reducible first | exact HB.out | apply below_alloc))⟩,⟨MapStr_made _ _ _ _⟩⟩
 case round =>
  clear H'
  clear hmm
  obtain ⟨x3_1,x10_1,rfl,HA,HK1,HBw,HM⟩ := hrel
  have HR0:=Aside0.mk (Kd.C_below HR0.out HBw.out)
  have HLen:=Aside0.mk HR0.out.2.1
  have HB:=Aside0.mk (Below.refl wr.heap.size wr)
  cases gk with
  | zero => exact absurd HA.out (by simp [impl_conflictIn.l0])
  | succ k1 =>
   have H:=HA.out
   clear HA
   simp only [impl_conflictIn.l0] at H
   by_cases c2 : x10_1 < (l0.length : Int)
   ·rw [if_pos c2] at H
    have c2b0 : decide (x10_1 < (l0.length : Int)) = true:=decide_eq_true c2
    clear c2
    by_cases c3 : 0 ≤ x10_1
    ·rw [if_pos c3] at H
     have c3b0 : decide (0 ≤ x10_1) = true:=decide_eq_true c3
     clear c3
     by_cases c4 : x10_1 < (l0.length : Int)
     ·rw [if_pos c4] at H
      have c4b0 : decide (x10_1 < (l0.length : Int)) = true:=decide_eq_true c4
      clear c4
      have HC5:=Aside0.mk H
      clear H
      have p276 : 0 ≤ (x10_1 : Int):=of_decide_eq_true (by (with_reducible assumption))
      have q276 : x10_1 < (l0.length : Int):=of_decide_eq_true (by (with_reducible assumption))
      obtain ⟨ad276,e276,hx276_0,hx276_1,hx276_2,hx276_3⟩ := at_T52 HR0.out x10_1 p276 q276
      cases e276
      replace hx276_0:=(HB.out.cell (World.block_lt_of_cell? wr _ hx276_0)).trans hx276_0
      replace hx276_1:=(HB.out.cell (World.block_lt_of_cell? wr _ hx276_1)).trans hx276_1
      replace hx276_2:=(HB.out.cell (World.block_lt_of_cell? wr _ hx276_2)).trans hx276_2
      replace hx276_3:=(HB.out.cell (World.block_lt_of_cell? wr _ hx276_3)).trans hx276_3
      replace p276:=eq_true p276
      replace q276:=eq_true q276
      go_upto_region 5 with (((with_reducible refine gate_dst (N:=5) rfl ?_);refine box_event ?hg (N:=5) ?hd (cs:=#[.int .i64 0, .string (⟨#[]⟩ : ByteArray), .bool false, .int .i64 0]) (t:=52) ?hr ?_;(case hd => rfl);(case hg => rfl);(case hr => (go_simp;done));intro gb277 hg w6 hbox hb;have n0_:=Aside0.mk (below_step (by exact HB.out) hb);have n1_:=Aside0.mk (hbox);have n2_:=Aside0.mk ((by rw [hg];exact (below_size (by exact HB.out)) : wr.heap.size ≤ gb277));have n3_:=Aside0.mk ((by rw [hg];exact (below_size (by exact HB.out)) : wr.heap.size ≤ gb277));clear HB;have HB:=n0_;have BK277:=n1_;have GW277:=n2_;have GE277:=n3_;clear n0_ n1_ n2_ n3_;clear hb hbox hg;have hcz7_0 : w6.cell? ⟨gb277,0,none⟩ = some (.int .i64 0):=(blk_cell BK277.out 0).trans rfl;have hcz7_1 : w6.cell? ⟨gb277,1,none⟩ = some (.string (⟨#[]⟩ : ByteArray)):=(blk_cell BK277.out 1).trans rfl;have hcz7_2 : w6.cell? ⟨gb277,2,none⟩ = some (.bool false):=(blk_cell BK277.out 2).trans rfl;have hcz7_3 : w6.cell? ⟨gb277,3,none⟩ = some (.int .i64 0):=(blk_cell BK277.out 3).trans rfl;have hfz7_0:=blk_frozen BK277.out 0;have hfz7_1:=blk_frozen BK277.out 1;have hfz7_2:=blk_frozen BK277.out 2;have hfz7_3:=blk_frozen BK277.out 3))
      (skip)
      go_cut [49] (fun v49 wc => ∃ (kq : Nat) (x49_4 : Bool),v49 = .bool x49_4 ∧ Aside0 (impl_conflictIn.j1 kq l0 x3_1 x10_1 l0 (l0.length : Int) x10_1 x49_4 ((rd_T52 l0 x10_1).f0) ((rd_T52 l0 x10_1).f1) ((rd_T52 l0 x10_1).f2) ((rd_T52 l0 x10_1).f3) = some r) ∧ Aside0 (kq ≤ k1) ∧ Aside0 (wc.heap[gb277]? = some (.cells #[.int .i64 ((rd_T52 l0 x10_1).f0), .string ((rd_T52 l0 x10_1).f1), .bool ((rd_T52 l0 x10_1).f2), .int .i64 ((rd_T52 l0 x10_1).f3)] 52 (0,0))) ∧ Aside0 (Below wr.heap.size wr wc))
      case first =>
       have H:=HC5.out
       clear HC5
       by_cases c8 : x10_1 = 20
       ·rw [if_pos c8] at H
        have c8b0 : (x10_1 == 20) = true:=beq_iff_eq.mpr c8
        have c8b1 : (x10_1 != 20) = false:=bne_eq_false_iff_eq.mpr c8
        clear c8
        (skip)
        have H':=Aside0.mk H
        clear H
        try go_wp2
        have n0_ : Aside0 (((((w6.setCell ⟨gb277,0,none⟩ (.int .i64 ((rd_T52 l0 x10_1).f0))).setCell ⟨gb277,1,none⟩ (.string ((rd_T52 l0 x10_1).f1))).setCell ⟨gb277,2,none⟩ (.bool ((rd_T52 l0 x10_1).f2))).setCell ⟨gb277,3,none⟩ (.int .i64 ((rd_T52 l0 x10_1).f3))).heap[gb277]? = some (.cells #[.int .i64 ((rd_T52 l0 x10_1).f0), .string ((rd_T52 l0 x10_1).f1), .bool ((rd_T52 l0 x10_1).f2), .int .i64 ((rd_T52 l0 x10_1).f3)] 52 (0,0))):=⟨by refine blk_put (cs:=#[.int .i64 ((rd_T52 l0 x10_1).f0), .string ((rd_T52 l0 x10_1).f1), .bool ((rd_T52 l0 x10_1).f2), .int .i64 0]) ?_ 3 _ rfl;refine blk_put (cs:=#[.int .i64 ((rd_T52 l0 x10_1).f0), .string ((rd_T52 l0 x10_1).f1), .bool false, .int .i64 0]) ?_ 2 _ rfl;refine blk_put (cs:=#[.int .i64 ((rd_T52 l0 x10_1).f0), .string (⟨#[]⟩ : ByteArray), .bool false, .int .i64 0]) ?_ 1 _ rfl;refine blk_put (cs:=#[.int .i64 0, .string (⟨#[]⟩ : ByteArray), .bool false, .int .i64 0]) ?_ 0 _ rfl;exact BK277.out⟩
        have n1_ : Aside0 (Below wr.heap.size wr ((((w6.setCell ⟨gb277,0,none⟩ (.int .i64 ((rd_T52 l0 x10_1).f0))).setCell ⟨gb277,1,none⟩ (.string ((rd_T52 l0 x10_1).f1))).setCell ⟨gb277,2,none⟩ (.bool ((rd_T52 l0 x10_1).f2))).setCell ⟨gb277,3,none⟩ (.int .i64 ((rd_T52 l0 x10_1).f3)))):=⟨by repeat ((with_reducible first | exact HB.out | refine below_set ?_ GE277.out))⟩
        (try clear BK277)
        (try clear HB)
        generalize ((((w6.setCell ⟨gb277,0,none⟩ (.int .i64 ((rd_T52 l0 x10_1).f0))).setCell ⟨gb277,1,none⟩ (.string ((rd_T52 l0 x10_1).f1))).setCell ⟨gb277,2,none⟩ (.bool ((rd_T52 l0 x10_1).f2))).setCell ⟨gb277,3,none⟩ (.int .i64 ((rd_T52 l0 x10_1).f3))) = w9 at n0_ n1_ ⊢
        have BK277:=n0_
        have HB:=n1_
        clear n0_ n1_
        have n0_:=Aside0.mk (blk_drew BK277.out)
        have n1_:=Aside0.mk (below_drew1 HB.out)
        clear BK277
        clear HB
        have BK277:=n0_
        have HB:=n1_
        clear n0_ n1_
        refine start_ (n:=35) (S:=fun w' => True) (ds := []) #[false,false,false,false,false,false,false,false,false,false,false,false,false,false,false,false,false,false,false,false,false,false,false,false,false,false,false,false,false,false,false,false,false,false,false] (by kernel_rfl) rfl rfl trivial (fun hHeld => ?_);refine with_tabW impl_conflictIn.tab5 impl_conflictIn.bits5 (fun HT_ HW_ => ?_)
        generalize w9.drew = w10 at BK277 HB hHeld ⊢
        refine pure_ (i:=0) (N:=some 15) (v:=?_) (a':=?_) #[true,false,false,false,false,false,false,false,false,false,false,false,false,false,false,false,false,false,false,false,false,false,false,false,false,false,false,false,false,false,false,false,false,false,false] rfl rfl (any_of HT_.out (by kernel_rfl)) (fun _ _ _ h => h) (Or.inl ⟨by rfl, ?_⟩) ?_ ?_
        rotate_left
        ·intro w'
         go_simp
         with_reducible rfl
        rotate_left
        ·simp only [Act.put,sA_,s0_,s1_,i64_w,i32_w]
         rfl
        refine pure_ (i:=1) (N:=some 16) (v:=?_) (a':=?_) #[true,true,false,false,false,false,false,false,false,false,false,false,false,false,false,false,false,false,false,false,false,false,false,false,false,false,false,false,false,false,false,false,false,false,false] rfl rfl (any_of HT_.out (by kernel_rfl)) (fun _ _ _ h => h) (Or.inl ⟨by rfl, ?_⟩) ?_ ?_
        rotate_left
        ·intro w'
         go_simp
         with_reducible rfl
        rotate_left
        ·simp only [Act.put,sA_,s0_,s1_,i64_w,i32_w]
         rfl
        refine pure_ (i:=2) (N:=some 17) (v:=?_) (a':=?_) #[true,true,true,false,false,false,false,false,false,false,false,false,false,false,false,false,false,false,false,false,false,false,false,false,false,false,false,false,false,false,false,false,false,false,false] rfl rfl (any_of HT_.out (by kernel_rfl)) (fun _ _ _ h => h) (Or.inl ⟨by rfl, ?_⟩) ?_ ?_
        rotate_left
        ·intro w'
         go_simp
         with_reducible rfl
        rotate_left
        ·simp only [Act.put,sA_,s0_,s1_,i64_w,i32_w]
         rfl
        refine pure_ (i:=3) (N:=some 18) (v:=undef) (a':=?_) #[true,true,true,true,false,false,false,false,false,false,false,false,false,false,false,false,false,false,false,false,false,false,false,false,false,false,false,false,false,false,false,false,false,false,false] rfl rfl (any_of HT_.out (by kernel_rfl)) (fun _ _ _ h => h) (Or.inr ⟨by rfl,rfl⟩) ?_ ?_
        rotate_left
        ·simp only [Act.put,sA_,s0_,s1_,i64_w,i32_w]
         rfl
        refine pure_ (i:=4) (N:=some 19) (v:=undef) (a':=?_) #[true,true,true,true,true,false,false,false,false,false,false,false,false,false,false,false,false,false,false,false,false,false,false,false,false,false,false,false,false,false,false,false,false,false,false] rfl rfl (any_of HT_.out (by kernel_rfl)) (fun _ _ _ h => h) (Or.inr ⟨by rfl,rfl⟩) ?_ ?_
        rotate_left
        ·simp only [Act.put,sA_,s0_,s1_,i64_w,i32_w]
         rfl
        refine pure_ (i:=5) (N:=some 20) (v:=undef) (a':=?_) #[true,true,true,true,true,true,false,false,false,false,false,false,false,false,false,false,false,false,false,false,false,false,false,false,false,false,false,false,false,false,false,false,false,false,false] rfl rfl (any_of HT_.out (by kernel_rfl)) (fun _ _ _ h => h) (Or.inr ⟨by rfl,rfl⟩) ?_ ?_
        rotate_left
        ·simp only [Act.put,sA_,s0_,s1_,i64_w,i32_w]
         rfl
        refine pure_ (i:=6) (N:=some 21) (v:=undef) (a':=?_) #[true,true,true,true,true,true,true,false,false,false,false,false,false,false,false,false,false,false,false,false,false,false,false,false,false,false,false,false,false,false,false,false,false,false,false] rfl rfl (any_of HT_.out (by kernel_rfl)) (fun _ _ _ h => h) (Or.inr ⟨by rfl,rfl⟩) ?_ ?_
        rotate_left
        ·simp only [Act.put,sA_,s0_,s1_,i64_w,i32_w]
         rfl
        refine pure_ (i:=7) (N:=some 22) (v:=?_) (a':=?_) #[true,true,true,true,true,true,true,true,false,false,false,false,false,false,false,false,false,false,false,false,false,false,false,false,false,false,false,false,false,false,false,false,false,false,false] rfl rfl (any_of HT_.out (by kernel_rfl)) (fun _ _ _ h => h) (Or.inl ⟨by rfl, ?_⟩) ?_ ?_
        rotate_left
        ·intro w'
         go_simp
         with_reducible rfl
        rotate_left
        ·simp only [Act.put,sA_,s0_,s1_,i64_w,i32_w]
         rfl
        refine pure_ (i:=8) (N:=some 23) (v:=?_) (a':=?_) #[true,true,true,true,true,true,true,true,true,false,false,false,false,false,false,false,false,false,false,false,false,false,false,false,false,false,false,false,false,false,false,false,false,false,false] rfl rfl (any_of HT_.out (by kernel_rfl)) (fun _ _ _ h => h) (Or.inl ⟨by rfl, ?_⟩) ?_ ?_
        rotate_left
        ·intro w'
         go_simp
         with_reducible rfl
        rotate_left
        ·simp only [Act.put,sA_,s0_,s1_,i64_w,i32_w]
         rfl
        refine pure_ (i:=9) (N:=some 24) (v:=undef) (a':=?_) #[true,true,true,true,true,true,true,true,true,true,false,false,false,false,false,false,false,false,false,false,false,false,false,false,false,false,false,false,false,false,false,false,false,false,false] rfl rfl (any_of HT_.out (by kernel_rfl)) (fun _ _ _ h => h) (Or.inr ⟨by rfl,rfl⟩) ?_ ?_
        rotate_left
        ·simp only [Act.put,sA_,s0_,s1_,i64_w,i32_w]
         rfl
        refine pure_ (i:=10) (N:=some 25) (v:=undef) (a':=?_) #[true,true,true,true,true,true,true,true,true,true,true,false,false,false,false,false,false,false,false,false,false,false,false,false,false,false,false,false,false,false,false,false,false,false,false] rfl rfl (any_of HT_.out (by kernel_rfl)) (fun _ _ _ h => h) (Or.inr ⟨by rfl,rfl⟩) ?_ ?_
        rotate_left
        ·simp only [Act.put,sA_,s0_,s1_,i64_w,i32_w]
         rfl
        refine pure_ (i:=11) (N:=some 26) (v:=undef) (a':=?_) #[true,true,true,true,true,true,true,true,true,true,true,true,false,false,false,false,false,false,false,false,false,false,false,false,false,false,false,false,false,false,false,false,false,false,false] rfl rfl (any_of HT_.out (by kernel_rfl)) (fun _ _ _ h => h) (Or.inr ⟨by rfl,rfl⟩) ?_ ?_
        rotate_left
        ·simp only [Act.put,sA_,s0_,s1_,i64_w,i32_w]
         rfl
        refine pure_ (i:=12) (N:=some 27) (v:=undef) (a':=?_) #[true,true,true,true,true,true,true,true,true,true,true,true,true,false,false,false,false,false,false,false,false,false,false,false,false,false,false,false,false,false,false,false,false,false,false] rfl rfl (any_of HT_.out (by kernel_rfl)) (fun _ _ _ h => h) (Or.inr ⟨by rfl,rfl⟩) ?_ ?_
        rotate_left
        ·simp only [Act.put,sA_,s0_,s1_,i64_w,i32_w]
         rfl
        refine pure_ (i:=13) (N:=some 28) (v:=undef) (a':=?_) #[true,true,true,true,true,true,true,true,true,true,true,true,true,true,false,false,false,false,false,false,false,false,false,false,false,false,false,false,false,false,false,false,false,false,false] rfl rfl (any_of HT_.out (by kernel_rfl)) (fun _ _ _ h => h) (Or.inr ⟨by rfl,rfl⟩) ?_ ?_
        rotate_left
        ·simp only [Act.put,sA_,s0_,s1_,i64_w,i32_w]
         rfl
        refine pure_ (i:=14) (N:=some 29) (v:=undef) (a':=?_) #[true,true,true,true,true,true,true,true,true,true,true,true,true,true,true,false,false,false,false,false,false,false,false,false,false,false,false,false,false,false,false,false,false,false,false] rfl rfl (any_of HT_.out (by kernel_rfl)) (fun _ _ _ h => h) (Or.inr ⟨by rfl,rfl⟩) ?_ ?_
        rotate_left
        ·simp only [Act.put,sA_,s0_,s1_,i64_w,i32_w]
         rfl
        refine pure_ (i:=15) (N:=some 30) (v:=undef) (a':=?_) #[true,true,true,true,true,true,true,true,true,true,true,true,true,true,true,true,false,false,false,false,false,false,false,false,false,false,false,false,false,false,false,false,false,false,false] rfl rfl (any_of HT_.out (by kernel_rfl)) (fun _ _ _ h => h) (Or.inr ⟨by rfl,rfl⟩) ?_ ?_
        rotate_left
        ·simp only [Act.put,sA_,s0_,s1_,i64_w,i32_w]
         rfl
        refine pure_ (i:=16) (N:=some 31) (v:=undef) (a':=?_) #[true,true,true,true,true,true,true,true,true,true,true,true,true,true,true,true,true,false,false,false,false,false,false,false,false,false,false,false,false,false,false,false,false,false,false] rfl rfl (any_of HT_.out (by kernel_rfl)) (fun _ _ _ h => h) (Or.inr ⟨by rfl,rfl⟩) ?_ ?_
        rotate_left
        ·simp only [Act.put,sA_,s0_,s1_,i64_w,i32_w]
         rfl
        refine pure_ (i:=17) (N:=some 32) (v:=undef) (a':=?_) #[true,true,true,true,true,true,true,true,true,true,true,true,true,true,true,true,true,true,false,false,false,false,false,false,false,false,false,false,false,false,false,false,false,false,false] rfl rfl (any_of HT_.out (by kernel_rfl)) (fun _ _ _ h => h) (Or.inr ⟨by rfl,rfl⟩) ?_ ?_
        rotate_left
        ·simp only [Act.put,sA_,s0_,s1_,i64_w,i32_w]
         rfl
        refine pure_ (i:=18) (N:=some 33) (v:=undef) (a':=?_) #[true,true,true,true,true,true,true,true,true,true,true,true,true,true,true,true,true,true,true,false,false,false,false,false,false,false,false,false,false,false,false,false,false,false,false] rfl rfl (any_of HT_.out (by kernel_rfl)) (fun _ _ _ h => h) (Or.inr ⟨by rfl,rfl⟩) ?_ ?_
        rotate_left
        ·simp only [Act.put,sA_,s0_,s1_,i64_w,i32_w]
         rfl
        refine pure_ (i:=19) (N:=some 34) (v:=undef) (a':=?_) #[true,true,true,true,true,true,true,true,true,true,true,true,true,true,true,true,true,true,true,true,false,false,false,false,false,false,false,false,false,false,false,false,false,false,false] rfl rfl (any_of HT_.out (by kernel_rfl)) (fun _ _ _ h => h) (Or.inr ⟨by rfl,rfl⟩) ?_ ?_
        rotate_left
        ·simp only [Act.put,sA_,s0_,s1_,i64_w,i32_w]
         rfl
        refine pure_ (i:=20) (N:=some 35) (v:=undef) (a':=?_) #[true,true,true,true,true,true,true,true,true,true,true,true,true,true,true,true,true,true,true,true,true,false,false,false,false,false,false,false,false,false,false,false,false,false,false] rfl rfl (any_of HT_.out (by kernel_rfl)) (fun _ _ _ h => h) (Or.inr ⟨by rfl,rfl⟩) ?_ ?_
        rotate_left
        ·simp only [Act.put,sA_,s0_,s1_,i64_w,i32_w]
         rfl
        refine pure_ (i:=21) (N:=some 36) (v:=undef) (a':=?_) #[true,true,true,true,true,true,true,true,true,true,true,true,true,true,true,true,true,true,true,true,true,true,false,false,false,false,false,false,false,false,false,false,false,false,false] rfl rfl (any_of HT_.out (by kernel_rfl)) (fun _ _ _ h => h) (Or.inr ⟨by rfl,rfl⟩) ?_ ?_
        rotate_left
        ·simp only [Act.put,sA_,s0_,s1_,i64_w,i32_w]
         rfl
        refine pure_ (i:=22) (N:=some 37) (v:=?_) (a':=?_) #[true,true,true,true,true,true,true,true,true,true,true,true,true,true,true,true,true,true,true,true,true,true,true,false,false,false,false,false,false,false,false,false,false,false,false] rfl rfl (any_of HT_.out (by kernel_rfl)) (fun _ _ _ h => h) (Or.inl ⟨by rfl, ?_⟩) ?_ ?_
        rotate_left
        ·intro w'
         go_simp
         with_reducible rfl
        rotate_left
        ·simp only [Act.put,sA_,s0_,s1_,i64_w,i32_w]
         rfl
        refine pure_ (i:=23) (N:=some 38) (v:=?_) (a':=?_) #[true,true,true,true,true,true,true,true,true,true,true,true,true,true,true,true,true,true,true,true,true,true,true,true,false,false,false,false,false,false,false,false,false,false,false] rfl rfl (any_of HT_.out (by kernel_rfl)) (fun _ _ _ h => h) (Or.inl ⟨by rfl, ?_⟩) ?_ ?_
        rotate_left
        ·intro w'
         go_simp
         with_reducible rfl
        rotate_left
        ·simp only [Act.put,sA_,s0_,s1_,i64_w,i32_w]
         rfl
        refine pure_ (i:=24) (N:=some 39) (v:=undef) (a':=?_) #[true,true,true,true,true,true,true,true,true,true,true,true,true,true,true,true,true,true,true,true,true,true,true,true,true,false,false,false,false,false,false,false,false,false,false] rfl rfl (any_of HT_.out (by kernel_rfl)) (fun _ _ _ h => h) (Or.inr ⟨by rfl,rfl⟩) ?_ ?_
        rotate_left
        ·simp only [Act.put,sA_,s0_,s1_,i64_w,i32_w]
         rfl
        refine pure_ (i:=25) (N:=some 40) (v:=undef) (a':=?_) #[true,true,true,true,true,true,true,true,true,true,true,true,true,true,true,true,true,true,true,true,true,true,true,true,true,true,false,false,false,false,false,false,false,false,false] rfl rfl (any_of HT_.out (by kernel_rfl)) (fun _ _ _ h => h) (Or.inr ⟨by rfl,rfl⟩) ?_ ?_
        rotate_left
        ·simp only [Act.put,sA_,s0_,s1_,i64_w,i32_w]
         rfl
        refine pure_ (i:=26) (N:=some 41) (v:=undef) (a':=?_) #[true,true,true,true,true,true,true,true,true,true,true,true,true,true,true,true,true,true,true,true,true,true,true,true,true,true,true,false,false,false,false,false,false,false,false] rfl rfl (any_of HT_.out (by kernel_rfl)) (fun _ _ _ h => h) (Or.inr ⟨by rfl,rfl⟩) ?_ ?_
        rotate_left
        ·simp only [Act.put,sA_,s0_,s1_,i64_w,i32_w]
         rfl
        refine pure_ (i:=27) (N:=some 42) (v:=undef) (a':=?_) #[true,true,true,true,true,true,true,true,true,true,true,true,true,true,true,true,true,true,true,true,true,true,true,true,true,true,true,true,false,false,false,false,false,false,false] rfl rfl (any_of HT_.out (by kernel_rfl)) (fun _ _ _ h => h) (Or.inr ⟨by rfl,rfl⟩) ?_ ?_
        rotate_left
        ·simp only [Act.put,sA_,s0_,s1_,i64_w,i32_w]
         rfl
        refine pure_ (i:=28) (N:=some 43) (v:=?_) (a':=?_) #[true,true,true,true,true,true,true,true,true,true,true,true,true,true,true,true,true,true,true,true,true,true,true,true,true,true,true,true,true,false,false,false,false,false,false] rfl rfl (any_of HT_.out (by kernel_rfl)) (fun _ _ _ h => h) (Or.inl ⟨by rfl, ?_⟩) ?_ ?_
        rotate_left
        ·intro w'
         go_simp
         with_reducible rfl
        rotate_left
        ·simp only [Act.put,sA_,s0_,s1_,i64_w,i32_w]
         rfl
        refine pure_ (i:=29) (N:=some 44) (v:=?_) (a':=?_) #[true,true,true,true,true,true,true,true,true,true,true,true,true,true,true,true,true,true,true,true,true,true,true,true,true,true,true,true,true,true,false,false,false,false,false] rfl rfl (any_of HT_.out (by kernel_rfl)) (fun _ _ _ h => h) (Or.inl ⟨by rfl, ?_⟩) ?_ ?_
        rotate_left
        ·intro w'
         go_simp
         with_reducible rfl
        rotate_left
        ·simp only [Act.put,sA_,s0_,s1_,i64_w,i32_w]
         rfl
        refine pure_ (i:=30) (N:=some 45) (v:=undef) (a':=?_) #[true,true,true,true,true,true,true,true,true,true,true,true,true,true,true,true,true,true,true,true,true,true,true,true,true,true,true,true,true,true,true,false,false,false,false] rfl rfl (any_of HT_.out (by kernel_rfl)) (fun _ _ _ h => h) (Or.inr ⟨by rfl,rfl⟩) ?_ ?_
        rotate_left
        ·simp only [Act.put,sA_,s0_,s1_,i64_w,i32_w]
         rfl
        refine pure_ (i:=31) (N:=some 46) (v:=undef) (a':=?_) #[true,true,true,true,true,true,true,true,true,true,true,true,true,true,true,true,true,true,true,true,true,true,true,true,true,true,true,true,true,true,true,true,false,false,false] rfl rfl (any_of HT_.out (by kernel_rfl)) (fun _ _ _ h => h) (Or.inr ⟨by rfl,rfl⟩) ?_ ?_
        rotate_left
        ·simp only [Act.put,sA_,s0_,s1_,i64_w,i32_w]
         rfl
        refine pure_ (i:=32) (N:=some 47) (v:=undef) (a':=?_) #[true,true,true,true,true,true,true,true,true,true,true,true,true,true,true,true,true,true,true,true,true,true,true,true,true,true,true,true,true,true,true,true,true,false,false] rfl rfl (any_of HT_.out (by kernel_rfl)) (fun _ _ _ h => h) (Or.inr ⟨by rfl,rfl⟩) ?_ ?_
        rotate_left
        ·simp only [Act.put,sA_,s0_,s1_,i64_w,i32_w]
         rfl
        refine pure_ (i:=33) (N:=some 48) (v:=undef) (a':=?_) #[true,true,true,true,true,true,true,true,true,true,true,true,true,true,true,true,true,true,true,true,true,true,true,true,true,true,true,true,true,true,true,true,true,true,false] rfl rfl (any_of HT_.out (by kernel_rfl)) (fun _ _ _ h => h) (Or.inr ⟨by rfl,rfl⟩) ?_ ?_
        rotate_left
        ·simp only [Act.put,sA_,s0_,s1_,i64_w,i32_w]
         rfl
        refine pure_ (i:=34) (N:=some 49) (v:=?_) (a':=?_) #[true,true,true,true,true,true,true,true,true,true,true,true,true,true,true,true,true,true,true,true,true,true,true,true,true,true,true,true,true,true,true,true,true,true,true] rfl rfl (any_of HT_.out (by kernel_rfl)) (fun _ _ _ h => h) (Or.inl ⟨by rfl, ?_⟩) ?_ ?_
        rotate_left
        ·intro w'
         go_simp
         with_reducible rfl
        rotate_left
        ·simp only [Act.put,sA_,s0_,s1_,i64_w,i32_w]
         rfl
        refine done_ (done_of HT_.out (by kernel_rfl)) ?_
        try go_wp2
        go_meet
        case rel => exact ⟨_,(true),(by rfl),H',⟨by have:=HK1.out;omega⟩,⟨by exact BK277.out⟩,⟨by exact HB.out⟩⟩
       ·rw [if_neg c8] at H
        have c8b0 : (x10_1 == 20) = false:=beq_eq_false_iff_ne.mpr c8
        have c8b1 : (x10_1 != 20) = true:=bne_iff_ne.mpr c8
        (skip)
        replace H:=Option.bind_eq_some_iff.mp H
        obtain ⟨t278,A110,H⟩ := H
        replace H : (if t278 = true then (if x10_1 > 0 then (if 0 ≤ (wrap64 (x10_1 - 1)) then (if (wrap64 (x10_1 - 1)) < (l0.length : Int) then (if ((rd_T52 l0 x10_1).f0) < ((rd_T52 l0 (wrap64 (x10_1 - 1))).f0) then (impl_conflictIn.j1 k1 l0 x3_1 x10_1 l0 (l0.length : Int) x10_1 true ((rd_T52 l0 x10_1).f0) ((rd_T52 l0 x10_1).f1) ((rd_T52 l0 x10_1).f2) ((rd_T52 l0 x10_1).f3)) else ((impl_IsValidId.f k1 ((rd_T52 l0 x10_1).f1)).bind fun t280 => (if t280 = true then ((impl_within.f ((rd_T52 l0 x10_1).f3) 1 15).bind fun t281 => (impl_conflictIn.j1 k1 l0 x3_1 x10_1 l0 (l0.length : Int) x10_1 (!t281) ((rd_T52 l0 x10_1).f0) ((rd_T52 l0 x10_1).f1) ((rd_T52 l0 x10_1).f2) ((rd_T52 l0 x10_1).f3))) else (impl_conflictIn.j1 k1 l0 x3_1 x10_1 l0 (l0.length : Int) x10_1 true ((rd_T52 l0 x10_1).f0) ((rd_T52 l0 x10_1).f1) ((rd_T52 l0 x10_1).f2) ((rd_T52 l0 x10_1).f3))))) else (none)) else (none)) else ((impl_IsValidId.f k1 ((rd_T52 l0 x10_1).f1)).bind fun t282 => (if t282 = true then ((impl_within.f ((rd_T52 l0 x10_1).f3) 1 15).bind fun t283 => (impl_conflictIn.j1 k1 l0 x3_1 x10_1 l0 (l0.length : Int) x10_1 (!t283) ((rd_T52 l0 x10_1).f0) ((rd_T52 l0 x10_1).f1) ((rd_T52 l0 x10_1).f2) ((rd_T52 l0 x10_1).f3))) else (impl_conflictIn.j1 k1 l0 x3_1 x10_1 l0 (l0.length : Int) x10_1 true ((rd_T52 l0 x10_1).f0) ((rd_T52 l0 x10_1).f1) ((rd_T52 l0 x10_1).f2) ((rd_T52 l0 x10_1).f3))))) else (impl_conflictIn.j1 k1 l0 x3_1 x10_1 l0 (l0.length : Int) x10_1 true ((rd_T52 l0 x10_1).f0) ((rd_T52 l0 x10_1).f1) ((rd_T52 l0 x10_1).f2) ((rd_T52 l0 x10_1).f3))) = some r:=H
        have A11:=Aside0.mk A110
        clear A110
        by_cases c12 : t278 = true
        ·subst c12
         have H1 : (if x10_1 > 0 then (if 0 ≤ (wrap64 (x10_1 - 1)) then (if (wrap64 (x10_1 - 1)) < (l0.length : Int) then (if ((rd_T52 l0 x10_1).f0) < ((rd_T52 l0 (wrap64 (x10_1 - 1))).f0) then (impl_conflictIn.j1 k1 l0 x3_1 x10_1 l0 (l0.length : Int) x10_1 true ((rd_T52 l0 x10_1).f0) ((rd_T52 l0 x10_1).f1) ((rd_T52 l0 x10_1).f2) ((rd_T52 l0 x10_1).f3)) else ((impl_IsValidId.f k1 ((rd_T52 l0 x10_1).f1)).bind fun t280 => (if t280 = true then ((impl_within.f ((rd_T52 l0 x10_1).f3) 1 15).bind fun t281 => (impl_conflictIn.j1 k1 l0 x3_1 x10_1 l0 (l0.length : Int) x10_1 (!t281) ((rd_T52 l0 x10_1).f0) ((rd_T52 l0 x10_1).f1) ((rd_T52 l0 x10_1).f2) ((rd_T52 l0 x10_1).f3))) else (impl_conflictIn.j1 k1 l0 x3_1 x10_1 l0 (l0.length : Int) x10_1 true ((rd_T52 l0 x10_1).f0) ((rd_T52 l0 x10_1).f1) ((rd_T52 l0 x10_1).f2) ((rd_T52 l0 x10_1).f3))))) else (none)) else (none)) else ((impl_IsValidId.f k1 ((rd_T52 l0 x10_1).f1)).bind fun t282 => (if t282 = true then ((impl_within.f ((rd_T52 l0 x10_1).f3) 1 15).bind fun t283 => (impl_conflictIn.j1 k1 l0 x3_1 x10_1 l0 (l0.length : Int) x10_1 (!t283) ((rd_T52 l0 x10_1).f0) ((rd_T52 l0 x10_1).f1) ((rd_T52 l0 x10_1).f2) ((rd_T52 l0 x10_1).f3))) else (impl_conflictIn.j1 k1 l0 x3_1 x10_1 l0 (l0.length : Int) x10_1 true ((rd_T52 l0 x10_1).f0) ((rd_T52 l0 x10_1).f1) ((rd_T52 l0 x10_1).f2) ((rd_T52 l0 x10_1).f3))))) = some r:=by rw [if_pos rfl] at H;exact H
         clear H
         have H:=H1
         clear H1
         by_cases c13 : x10_1 > 0
         ·rw [if_pos c13] at H
          have c13b0 : decide (0 < x10_1) = true:=decide_eq_true c13
          clear c13
          obtain ⟨ji14,hji14⟩ : ∃ j_ : Int,(wrap64 (x10_1 - 1)) = j_:=⟨_,rfl⟩
          replace H : (if 0 ≤ (ji14) then (if (ji14) < (l0.length : Int) then (if ((rd_T52 l0 x10_1).f0) < ((rd_T52 l0 (ji14)).f0) then (impl_conflictIn.j1 k1 l0 x3_1 x10_1 l0 (l0.length : Int) x10_1 true ((rd_T52 l0 x10_1).f0) ((rd_T52 l0 x10_1).f1) ((rd_T52 l0 x10_1).f2) ((rd_T52 l0 x10_1).f3)) else ((impl_IsValidId.f k1 ((rd_T52 l0 x10_1).f1)).bind fun t280 => (if t280 = true then ((impl_within.f ((rd_T52 l0 x10_1).f3) 1 15).bind fun t281 => (impl_conflictIn.j1 k1 l0 x3_1 x10_1 l0 (l0.length : Int) x10_1 (!t281) ((rd_T52 l0 x10_1).f0) ((rd_T52 l0 x10_1).f1) ((rd_T52 l0 x10_1).f2) ((rd_T52 l0 x10_1).f3))) else (impl_conflictIn.j1 k1 l0 x3_1 x10_1 l0 (l0.length : Int) x10_1 true ((rd_T52 l0 x10_1).f0) ((rd_T52 l0 x10_1).f1) ((rd_T52 l0 x10_1).f2) ((rd_T52 l0 x10_1).f3))))) else (none)) else (none)) = some r:=by (rw [hji14] at H;exact H)
          (skip)
          have hji14w : (IntKind.i64.wrap (x10_1 - 1)) = ji14:=(i64_w _).trans hji14
          by_cases c15 : 0 ≤ (ji14)
          ·rw [if_pos c15] at H
           have c15b0 : decide (0 ≤ (ji14)) = true:=decide_eq_true c15
           clear c15
           by_cases c16 : (ji14) < (l0.length : Int)
           ·rw [if_pos c16] at H
            have c16b0 : decide ((ji14) < (l0.length : Int)) = true:=decide_eq_true c16
            clear c16
            by_cases c17 : ((rd_T52 l0 x10_1).f0) < ((rd_T52 l0 (ji14)).f0)
            ·rw [if_pos c17] at H
             have c17b0 : decide (((rd_T52 l0 x10_1).f0) < ((rd_T52 l0 (ji14)).f0)) = true:=decide_eq_true c17
             clear c17
             have H':=Aside0.mk H
             clear H
             try go_wp2
             have n0_ : Aside0 (((((w6.setCell ⟨gb277,0,none⟩ (.int .i64 ((rd_T52 l0 x10_1).f0))).setCell ⟨gb277,1,none⟩ (.string ((rd_T52 l0 x10_1).f1))).setCell ⟨gb277,2,none⟩ (.bool ((rd_T52 l0 x10_1).f2))).setCell ⟨gb277,3,none⟩ (.int .i64 ((rd_T52 l0 x10_1).f3))).heap[gb277]? = some (.cells #[.int .i64 ((rd_T52 l0 x10_1).f0), .string ((rd_T52 l0 x10_1).f1), .bool ((rd_T52 l0 x10_1).f2), .int .i64 ((rd_T52 l0 x10_1).f3)] 52 (0,0))):=⟨by refine blk_put (cs:=#[.int .i64 ((rd_T52 l0 x10_1).f0), .string ((rd_T52 l0 x10_1).f1), .bool ((rd_T52 l0 x10_1).f2), .int .i64 0]) ?_ 3 _ rfl;refine blk_put (cs:=#[.int .i64 ((rd_T52 l0 x10_1).f0), .string ((rd_T52 l0 x10_1).f1), .bool false, .int .i64 0]) ?_ 2 _ rfl;refine blk_put (cs:=#[.int .i64 ((rd_T52 l0 x10_1).f0), .string (⟨#[]⟩ : ByteArray), .bool false, .int .i64 0]) ?_ 1 _ rfl;refine blk_put (cs:=#[.int .i64 0, .string (⟨#[]⟩ : ByteArray), .bool false, .int .i64 0]) ?_ 0 _ rfl;exact BK277.out⟩
             have n1_ : Aside0 (Below wr.heap.size wr ((((w6.setCell ⟨gb277,0,none⟩ (.int .i64 ((rd_T52 l0 x10_1).f0))).setCell ⟨gb277,1,none⟩ (.string ((rd_T52 l0 x10_1).f1))).setCell ⟨gb277,2,none⟩ (.bool ((rd_T52 l0 x10_1).f2))).setCell ⟨gb277,3,none⟩ (.int .i64 ((rd_T52 l0 x10_1).f3)))):=⟨by repeat ((with_reducible first | exact HB.out | refine below_set ?_ GE277.out))⟩
             (try clear BK277)
             (try clear HB)
             generalize ((((w6.setCell ⟨gb277,0,none⟩ (.int .i64 ((rd_T52 l0 x10_1).f0))).setCell ⟨gb277,1,none⟩ (.string ((rd_T52 l0 x10_1).f1))).setCell ⟨gb277,2,none⟩ (.bool ((rd_T52 l0 x10_1).f2))).setCell ⟨gb277,3,none⟩ (.int .i64 ((rd_T52 l0 x10_1).f3))) = w18 at n0_ n1_ ⊢
             have BK277:=n0_
             have HB:=n1_
             clear n0_ n1_
             have n0_:=Aside0.mk (blk_drew BK277.out)
             have n1_:=Aside0.mk (below_drew1 HB.out)
             clear BK277
             clear HB
             have BK277:=n0_
             have HB:=n1_
             clear n0_ n1_
             have p279 : 0 ≤ ((ji14) : Int):=of_decide_eq_true (by (with_reducible assumption))
             have q279 : (ji14) < (l0.length : Int):=of_decide_eq_true (by (with_reducible assumption))
             obtain ⟨ad279,e279,hx279_0,hx279_1,hx279_2,hx279_3⟩ := at_T52 HR0.out (ji14) p279 q279
             have hw279_3:=hx279_3
             have hw279_2:=hx279_2
             have hw279_1:=hx279_1
             have hw279_0:=hx279_0
             obtain rfl : ad276 = ad279:=(by injection e279)
             replace hx279_0:=(HB.out.cell (World.block_lt_of_cell? wr _ hx279_0)).trans hx279_0
             replace hx279_1:=(HB.out.cell (World.block_lt_of_cell? wr _ hx279_1)).trans hx279_1
             replace hx279_2:=(HB.out.cell (World.block_lt_of_cell? wr _ hx279_2)).trans hx279_2
             replace hx279_3:=(HB.out.cell (World.block_lt_of_cell? wr _ hx279_3)).trans hx279_3
             replace p279:=eq_true p279
             replace q279:=eq_true q279
             refine start_ (n:=35) (S:=fun w' => w'.cell? ⟨gb277,0,none⟩ = some (.int .i64 ((rd_T52 l0 x10_1).f0)) ∧ w'.cell? ⟨gb277,1,none⟩ = some (.string ((rd_T52 l0 x10_1).f1)) ∧ w'.cell? ⟨gb277,2,none⟩ = some (.bool ((rd_T52 l0 x10_1).f2)) ∧ w'.cell? ⟨gb277,3,none⟩ = some (.int .i64 ((rd_T52 l0 x10_1).f3)) ∧ w'.cell? (ad276.add (((ji14)).toNat * 4)) = some (.int .i64 ((rd_T52 l0 (ji14)).f0)) ∧ w'.cell? ⟨(ad276.add (((ji14)).toNat * 4)).block,(ad276.add (((ji14)).toNat * 4)).off + 1,none⟩ = some (.string ((rd_T52 l0 (ji14)).f1)) ∧ w'.cell? ⟨(ad276.add (((ji14)).toNat * 4)).block,(ad276.add (((ji14)).toNat * 4)).off + 2,none⟩ = some (.bool ((rd_T52 l0 (ji14)).f2)) ∧ w'.cell? ⟨(ad276.add (((ji14)).toNat * 4)).block,(ad276.add (((ji14)).toNat * 4)).off + 3,none⟩ = some (.int .i64 ((rd_T52 l0 (ji14)).f3))) (ds := []) #[false,false,false,false,false,false,false,false,false,false,false,false,false,false,false,false,false,false,false,false,false,false,false,false,false,false,false,false,false,false,false,false,false,false,false] (by kernel_rfl) rfl rfl ⟨(blk_cell BK277.out 0).trans rfl,(blk_cell BK277.out 1).trans rfl,(blk_cell BK277.out 2).trans rfl,(blk_cell BK277.out 3).trans rfl,((HB.out.cell (World.block_lt_of_cell? wr _ hw279_0)).trans hw279_0),((HB.out.cell (World.block_lt_of_cell? wr _ hw279_1)).trans hw279_1),((HB.out.cell (World.block_lt_of_cell? wr _ hw279_2)).trans hw279_2),((HB.out.cell (World.block_lt_of_cell? wr _ hw279_3)).trans hw279_3)⟩ (fun hHeld => ?_);refine with_tabW impl_conflictIn.tab5 impl_conflictIn.bits5 (fun HT_ HW_ => ?_)
             generalize w18.drew = w19 at BK277 HB hx279_0 hx279_1 hx279_2 hx279_3 hHeld ⊢
             refine pure_ (i:=0) (N:=some 15) (v:=?_) (a':=?_) #[true,false,false,false,false,false,false,false,false,false,false,false,false,false,false,false,false,false,false,false,false,false,false,false,false,false,false,false,false,false,false,false,false,false,false] rfl rfl (any_of HT_.out (by kernel_rfl)) (fun _ _ _ h => h) (Or.inl ⟨by rfl, ?_⟩) ?_ ?_
             rotate_left
             ·intro w'
              go_simp
              with_reducible rfl
             rotate_left
             ·simp only [Act.put,sA_,s0_,s1_,i64_w,i32_w]
              rfl
             refine pure_ (i:=1) (N:=some 16) (v:=?_) (a':=?_) #[true,true,false,false,false,false,false,false,false,false,false,false,false,false,false,false,false,false,false,false,false,false,false,false,false,false,false,false,false,false,false,false,false,false,false] rfl rfl (any_of HT_.out (by kernel_rfl)) (fun _ _ _ h => h) (Or.inl ⟨by rfl, ?_⟩) ?_ ?_
             rotate_left
             ·intro w'
              go_simp
              with_reducible rfl
             rotate_left
             ·simp only [Act.put,sA_,s0_,s1_,i64_w,i32_w]
              rfl
             refine pure_ (i:=2) (N:=some 17) (v:=?_) (a':=?_) #[true,true,true,false,false,false,false,false,false,false,false,false,false,false,false,false,false,false,false,false,false,false,false,false,false,false,false,false,false,false,false,false,false,false,false] rfl rfl (any_of HT_.out (by kernel_rfl)) (fun _ _ _ h => h) (Or.inl ⟨by rfl, ?_⟩) ?_ ?_
             rotate_left
             ·intro w'
              go_simp
              with_reducible rfl
             rotate_left
             ·simp only [Act.put,sA_,s0_,s1_,i64_w,i32_w]
              rfl
             refine pure_ (i:=3) (N:=some 18) (v:=?_) (a':=?_) #[true,true,true,true,false,false,false,false,false,false,false,false,false,false,false,false,false,false,false,false,false,false,false,false,false,false,false,false,false,false,false,false,false,false,false] rfl rfl (any_of HT_.out (by kernel_rfl)) (fun _ _ _ h => h) (Or.inl ⟨by rfl, ?_⟩) ?_ ?_
             rotate_left
             ·intro w'
              go_simp
              with_reducible rfl
             rotate_left
             ·simp only [Act.put,sA_,s0_,s1_,i64_w,i32_w]
              rfl
             refine take_ (i:=4) (N:=some 19) (v:=?_) (a':=?_) #[true,true,true,true,true,false,false,false,false,false,false,false,false,false,false,false,false,false,false,false,false,false,false,false,false,false,false,false,false,false,false,false,false,false,false] rfl rfl (take_ofW HT_.out HW_.out (by kernel_rfl)) (fun _ _ _ h => h) (Or.inl ⟨by rfl, ?_⟩) hHeld ?_ ?_
             rotate_left
             ·rintro w' ⟨s0,s1,s2,s3,s4,s5,s6,s7⟩
              go_simp
              with_reducible rfl
             rotate_left
             ·simp only [Act.put,sA_,s0_,s1_,i64_w,i32_w]
              rfl
             refine one_ (i:=5) (N:=some 20) #[true,true,true,true,true,true,false,false,false,false,false,false,false,false,false,false,false,false,false,false,false,false,false,false,false,false,false,false,false,false,false,false,false,false,false] rfl rfl (one_of HT_.out (by kernel_rfl)) (by decide) (fun K hK => ?_)
             refine goes_ Try.func39 (by kernel_rfl) rfl #[.int .i64 ((rd_T52 l0 x10_1).f0), .int .i64 0, .int .i64 240] (by rfl) rfl rfl (by (try simp only [List.map_toArray,List.map_cons,List.map_nil]);rfl) ?_
             with_reducible refine (impl_within.calls ((rd_T52 l0 x10_1).f0) 0 240 true _ A11.out).mono ?_
             rintro e w' ⟨rfl,⟨nd,rfl⟩⟩
             refine ⟨_,rfl, ?_⟩
             refine hK.out _ _ ⟨(blk_cell BK277.out 0).trans rfl,(blk_cell BK277.out 1).trans rfl,(blk_cell BK277.out 2).trans rfl,(blk_cell BK277.out 3).trans rfl,((HB.out.cell (World.block_lt_of_cell? wr _ hw279_0)).trans hw279_0),((HB.out.cell (World.block_lt_of_cell? wr _ hw279_1)).trans hw279_1),((HB.out.cell (World.block_lt_of_cell? wr _ hw279_2)).trans hw279_2),((HB.out.cell (World.block_lt_of_cell? wr _ hw279_3)).trans hw279_3)⟩ (fun hHeld => ?_)
             clear hK K
             refine norm_ (a':=?_) ?_ ?_
             rotate_left
             ·show Act.put _ (some 20) _ = _
              simp only [Act.put,sA_,s0_,s1_,i64_w,i32_w]
              rfl
             refine pure_ (i:=6) (N:=some 21) (v:=?_) (a':=?_) #[true,true,true,true,true,true,true,false,false,false,false,false,false,false,false,false,false,false,false,false,false,false,false,false,false,false,false,false,false,false,false,false,false,false,false] rfl rfl (any_of HT_.out (by kernel_rfl)) (fun _ _ _ h => h) (Or.inl ⟨by rfl, ?_⟩) ?_ ?_
             rotate_left
             ·intro w'
              go_simp
              with_reducible rfl
             rotate_left
             ·simp only [Act.put,sA_,s0_,s1_,i64_w,i32_w]
              rfl
             refine pure_ (i:=7) (N:=some 22) (v:=?_) (a':=?_) #[true,true,true,true,true,true,true,true,false,false,false,false,false,false,false,false,false,false,false,false,false,false,false,false,false,false,false,false,false,false,false,false,false,false,false] rfl rfl (any_of HT_.out (by kernel_rfl)) (fun _ _ _ h => h) (Or.inl ⟨by rfl, ?_⟩) ?_ ?_
             rotate_left
             ·intro w'
              go_simp
              with_reducible rfl
             rotate_left
             ·simp only [Act.put,sA_,s0_,s1_,i64_w,i32_w]
              rfl
             refine pure_ (i:=8) (N:=some 23) (v:=?_) (a':=?_) #[true,true,true,true,true,true,true,true,true,false,false,false,false,false,false,false,false,false,false,false,false,false,false,false,false,false,false,false,false,false,false,false,false,false,false] rfl rfl (any_of HT_.out (by kernel_rfl)) (fun _ _ _ h => h) (Or.inl ⟨by rfl, ?_⟩) ?_ ?_
             rotate_left
             ·intro w'
              go_simp
              with_reducible rfl
             rotate_left
             ·simp only [Act.put,sA_,s0_,s1_,i64_w,i32_w]
              rfl
             refine pure_ (i:=9) (N:=some 24) (v:=?_) (a':=?_) #[true,true,true,true,true,true,true,true,true,true,false,false,false,false,false,false,false,false,false,false,false,false,false,false,false,false,false,false,false,false,false,false,false,false,false] rfl rfl (any_of HT_.out (by kernel_rfl)) (fun _ _ _ h => h) (Or.inl ⟨by rfl, ?_⟩) ?_ ?_
             rotate_left
             ·intro w'
              go_simp
              with_reducible rfl
             rotate_left
             ·simp only [Act.put,sA_,s0_,s1_,i64_w,i32_w]
              rfl
             refine pure_ (i:=10) (N:=some 25) (v:=?_) (a':=?_) #[true,true,true,true,true,true,true,true,true,true,true,false,false,false,false,false,false,false,false,false,false,false,false,false,false,false,false,false,false,false,false,false,false,false,false] rfl rfl (any_of HT_.out (by kernel_rfl)) (fun _ _ _ h => h) (Or.inl ⟨by rfl, ?_⟩) ?_ ?_
             rotate_left
             ·intro w'
              go_simp
              with_reducible rfl
             rotate_left
             ·simp only [Act.put,sA_,s0_,s1_,i64_w,i32_w]
              rfl
             refine pure_ (i:=11) (N:=some 26) (v:=?_) (a':=?_) #[true,true,true,true,true,true,true,true,true,true,true,true,false,false,false,false,false,false,false,false,false,false,false,false,false,false,false,false,false,false,false,false,false,false,false] rfl rfl (any_of HT_.out (by kernel_rfl)) (fun _ _ _ h => h) (Or.inl ⟨by rfl, ?_⟩) ?_ ?_
             rotate_left
             ·intro w'
              go_simp
              with_reducible rfl
             rotate_left
             ·simp only [Act.put,sA_,s0_,s1_,i64_w,i32_w]
              rfl
             refine pure_ (i:=12) (N:=some 27) (v:=?_) (a':=?_) #[true,true,true,true,true,true,true,true,true,true,true,true,true,false,false,false,false,false,false,false,false,false,false,false,false,false,false,false,false,false,false,false,false,false,false] rfl rfl (any_of HT_.out (by kernel_rfl)) (fun _ _ _ h => h) (Or.inl ⟨by rfl, ?_⟩) ?_ ?_
             rotate_left
             ·intro w'
              go_simp
              with_reducible rfl
             rotate_left
             ·simp only [Act.put,sA_,s0_,s1_,i64_w,i32_w]
              rfl
             refine pure_ (i:=14) (N:=some 29) (v:=?_) (a':=?_) #[true,true,true,true,true,true,true,true,true,true,true,true,true,false,true,false,false,false,false,false,false,false,false,false,false,false,false,false,false,false,false,false,false,false,false] rfl rfl (any_of HT_.out (by kernel_rfl)) (fun _ _ _ h => h) (Or.inl ⟨by rfl, ?_⟩) ?_ ?_
             rotate_left
             ·intro w'
              go_simp
              with_reducible rfl
             rotate_left
             ·simp only [Act.put,sA_,s0_,s1_,i64_w,i32_w]
              rfl
             refine pure_ (i:=15) (N:=some 30) (v:=?_) (a':=?_) #[true,true,true,true,true,true,true,true,true,true,true,true,true,false,true,true,false,false,false,false,false,false,false,false,false,false,false,false,false,false,false,false,false,false,false] rfl rfl (any_of HT_.out (by kernel_rfl)) (fun _ _ _ h => h) (Or.inl ⟨by rfl, ?_⟩) ?_ ?_
             rotate_left
             ·intro w'
              go_simp
              with_reducible rfl
             rotate_left
             ·simp only [Act.put,sA_,s0_,s1_,i64_w,i32_w]
              rfl
             refine pure_ (i:=16) (N:=some 31) (v:=?_) (a':=?_) #[true,true,true,true,true,true,true,true,true,true,true,true,true,false,true,true,true,false,false,false,false,false,false,false,false,false,false,false,false,false,false,false,false,false,false] rfl rfl (any_of HT_.out (by kernel_rfl)) (fun _ _ _ h => h) (Or.inl ⟨by rfl, ?_⟩) ?_ ?_
             rotate_left
             ·intro w'
              go_simp
              with_reducible rfl
             rotate_left
             ·simp only [Act.put,sA_,s0_,s1_,i64_w,i32_w]
              rfl
             refine pure_ (i:=17) (N:=some 32) (v:=?_) (a':=?_) #[true,true,true,true,true,true,true,true,true,true,true,true,true,false,true,true,true,true,false,false,false,false,false,false,false,false,false,false,false,false,false,false,false,false,false] rfl rfl (any_of HT_.out (by kernel_rfl)) (fun _ _ _ h => h) (Or.inl ⟨by rfl, ?_⟩) ?_ ?_
             rotate_left
             ·intro w'
              go_simp
              with_reducible rfl
             rotate_left
             ·simp only [Act.put,sA_,s0_,s1_,i64_w,i32_w]
              rfl
             refine pure_ (i:=18) (N:=some 33) (v:=?_) (a':=?_) #[true,true,true,true,true,true,true,true,true,true,true,true,true,false,true,true,true,true,true,false,false,false,false,false,false,false,false,false,false,false,false,false,false,false,false] rfl rfl (any_of HT_.out (by kernel_rfl)) (fun _ _ _ h => h) (Or.inl ⟨by rfl, ?_⟩) ?_ ?_
             rotate_left
             ·intro w'
              go_simp
              with_reducible rfl
             rotate_left
             ·simp only [Act.put,sA_,s0_,s1_,i64_w,i32_w]
              rfl
             refine take_ (i:=13) (N:=some 28) (v:=?_) (a':=?_) #[true,true,true,true,true,true,true,true,true,true,true,true,true,true,true,true,true,true,true,false,false,false,false,false,false,false,false,false,false,false,false,false,false,false,false] rfl rfl (take_ofW HT_.out HW_.out (by kernel_rfl)) (fun _ _ _ h => h) (Or.inl ⟨by rfl, ?_⟩) hHeld ?_ ?_
             rotate_left
             ·rintro w' ⟨s0,s1,s2,s3,s4,s5,s6,s7⟩
              go_simp
              with_reducible rfl
             rotate_left
             ·simp only [Act.put,sA_,s0_,s1_,i64_w,i32_w]
              rfl
             refine take_ (i:=19) (N:=some 34) (v:=?_) (a':=?_) #[true,true,true,true,true,true,true,true,true,true,true,true,true,true,true,true,true,true,true,true,false,false,false,false,false,false,false,false,false,false,false,false,false,false,false] rfl rfl (take_ofW HT_.out HW_.out (by kernel_rfl)) (fun _ _ _ h => h) (Or.inl ⟨by rfl, ?_⟩) hHeld ?_ ?_
             rotate_left
             ·rintro w' ⟨s0,s1,s2,s3,s4,s5,s6,s7⟩
              go_simp
              with_reducible rfl
             rotate_left
             ·simp only [Act.put,sA_,s0_,s1_,i64_w,i32_w]
              rfl
             refine pure_ (i:=20) (N:=some 35) (v:=?_) (a':=?_) #[true,true,true,true,true,true,true,true,true,true,true,true,true,true,true,true,true,true,true,true,true,false,false,false,false,false,false,false,false,false,false,false,false,false,false] rfl rfl (any_of HT_.out (by kernel_rfl)) (fun _ _ _ h => h) (Or.inl ⟨by rfl, ?_⟩) ?_ ?_
             rotate_left
             ·intro w'
              go_simp
              with_reducible rfl
             rotate_left
             ·simp only [Act.put,sA_,s0_,s1_,i64_w,i32_w]
              rfl
             refine pure_ (i:=21) (N:=some 36) (v:=?_) (a':=?_) #[true,true,true,true,true,true,true,true,true,true,true,true,true,true,true,true,true,true,true,true,true,true,false,false,false,false,false,false,false,false,false,false,false,false,false] rfl rfl (any_of HT_.out (by kernel_rfl)) (fun _ _ _ h => h) (Or.inl ⟨by rfl, ?_⟩) ?_ ?_
             rotate_left
             ·intro w'
              go_simp
              with_reducible rfl
             rotate_left
             ·simp only [Act.put,sA_,s0_,s1_,i64_w,i32_w]
              rfl
             refine pure_ (i:=22) (N:=some 37) (v:=?_) (a':=?_) #[true,true,true,true,true,true,true,true,true,true,true,true,true,true,true,true,true,true,true,true,true,true,true,false,false,false,false,false,false,false,false,false,false,false,false] rfl rfl (any_of HT_.out (by kernel_rfl)) (fun _ _ _ h => h) (Or.inl ⟨by rfl, ?_⟩) ?_ ?_
             rotate_left
             ·intro w'
              go_simp
              with_reducible rfl
             rotate_left
             ·simp only [Act.put,sA_,s0_,s1_,i64_w,i32_w]
              rfl
             refine pure_ (i:=23) (N:=some 38) (v:=?_) (a':=?_) #[true,true,true,true,true,true,true,true,true,true,true,true,true,true,true,true,true,true,true,true,true,true,true,true,false,false,false,false,false,false,false,false,false,false,false] rfl rfl (any_of HT_.out (by kernel_rfl)) (fun _ _ _ h => h) (Or.inl ⟨by rfl, ?_⟩) ?_ ?_
             rotate_left
             ·intro w'
              go_simp
              with_reducible rfl
             rotate_left
             ·simp only [Act.put,sA_,s0_,s1_,i64_w,i32_w]
              rfl
             refine pure_ (i:=24) (N:=some 39) (v:=undef) (a':=?_) #[true,true,true,true,true,true,true,true,true,true,true,true,true,true,true,true,true,true,true,true,true,true,true,true,true,false,false,false,false,false,false,false,false,false,false] rfl rfl (any_of HT_.out (by kernel_rfl)) (fun _ _ _ h => h) (Or.inr ⟨by rfl,rfl⟩) ?_ ?_
             rotate_left
             ·simp only [Act.put,sA_,s0_,s1_,i64_w,i32_w]
              rfl
             refine pure_ (i:=25) (N:=some 40) (v:=undef) (a':=?_) #[true,true,true,true,true,true,true,true,true,true,true,true,true,true,true,true,true,true,true,true,true,true,true,true,true,true,false,false,false,false,false,false,false,false,false] rfl rfl (any_of HT_.out (by kernel_rfl)) (fun _ _ _ h => h) (Or.inr ⟨by rfl,rfl⟩) ?_ ?_
             rotate_left
             ·simp only [Act.put,sA_,s0_,s1_,i64_w,i32_w]
              rfl
             refine pure_ (i:=26) (N:=some 41) (v:=undef) (a':=?_) #[true,true,true,true,true,true,true,true,true,true,true,true,true,true,true,true,true,true,true,true,true,true,true,true,true,true,true,false,false,false,false,false,false,false,false] rfl rfl (any_of HT_.out (by kernel_rfl)) (fun _ _ _ h => h) (Or.inr ⟨by rfl,rfl⟩) ?_ ?_
             rotate_left
             ·simp only [Act.put,sA_,s0_,s1_,i64_w,i32_w]
              rfl
             refine pure_ (i:=27) (N:=some 42) (v:=undef) (a':=?_) #[true,true,true,true,true,true,true,true,true,true,true,true,true,true,true,true,true,true,true,true,true,true,true,true,true,true,true,true,false,false,false,false,false,false,false] rfl rfl (any_of HT_.out (by kernel_rfl)) (fun _ _ _ h => h) (Or.inr ⟨by rfl,rfl⟩) ?_ ?_
             rotate_left
             ·simp only [Act.put,sA_,s0_,s1_,i64_w,i32_w]
              rfl
             refine pure_ (i:=28) (N:=some 43) (v:=?_) (a':=?_) #[true,true,true,true,true,true,true,true,true,true,true,true,true,true,true,true,true,true,true,true,true,true,true,true,true,true,true,true,true,false,false,false,false,false,false] rfl rfl (any_of HT_.out (by kernel_rfl)) (fun _ _ _ h => h) (Or.inl ⟨by rfl, ?_⟩) ?_ ?_
             rotate_left
             ·intro w'
              go_simp
              with_reducible rfl
             rotate_left
             ·simp only [Act.put,sA_,s0_,s1_,i64_w,i32_w]
              rfl
             refine pure_ (i:=29) (N:=some 44) (v:=?_) (a':=?_) #[true,true,true,true,true,true,true,true,true,true,true,true,true,true,true,true,true,true,true,true,true,true,true,true,true,true,true,true,true,true,false,false,false,false,false] rfl rfl (any_of HT_.out (by kernel_rfl)) (fun _ _ _ h => h) (Or.inl ⟨by rfl, ?_⟩) ?_ ?_
             rotate_left
             ·intro w'
              go_simp
              with_reducible rfl
             rotate_left
             ·simp only [Act.put,sA_,s0_,s1_,i64_w,i32_w]
              rfl
             refine pure_ (i:=30) (N:=some 45) (v:=undef) (a':=?_) #[true,true,true,true,true,true,true,true,true,true,true,true,true,true,true,true,true,true,true,true,true,true,true,true,true,true,true,true,true,true,true,false,false,false,false] rfl rfl (any_of HT_.out (by kernel_rfl)) (fun _ _ _ h => h) (Or.inr ⟨by rfl,rfl⟩) ?_ ?_
             rotate_left
             ·simp only [Act.put,sA_,s0_,s1_,i64_w,i32_w]
              rfl
             refine pure_ (i:=31) (N:=some 46) (v:=undef) (a':=?_) #[true,true,true,true,true,true,true,true,true,true,true,true,true,true,true,true,true,true,true,true,true,true,true,true,true,true,true,true,true,true,true,true,false,false,false] rfl rfl (any_of HT_.out (by kernel_rfl)) (fun _ _ _ h => h) (Or.inr ⟨by rfl,rfl⟩) ?_ ?_
             rotate_left
             ·simp only [Act.put,sA_,s0_,s1_,i64_w,i32_w]
              rfl
             refine pure_ (i:=32) (N:=some 47) (v:=undef) (a':=?_) #[true,true,true,true,true,true,true,true,true,true,true,true,true,true,true,true,true,true,true,true,true,true,true,true,true,true,true,true,true,true,true,true,true,false,false] rfl rfl (any_of HT_.out (by kernel_rfl)) (fun _ _ _ h => h) (Or.inr ⟨by rfl,rfl⟩) ?_ ?_
             rotate_left
             ·simp only [Act.put,sA_,s0_,s1_,i64_w,i32_w]
              rfl
             refine pure_ (i:=33) (N:=some 48) (v:=undef) (a':=?_) #[true,true,true,true,true,true,true,true,true,true,true,true,true,true,true,true,true,true,true,true,true,true,true,true,true,true,true,true,true,true,true,true,true,true,false] rfl rfl (any_of HT_.out (by kernel_rfl)) (fun _ _ _ h => h) (Or.inr ⟨by rfl,rfl⟩) ?_ ?_
             rotate_left
             ·simp only [Act.put,sA_,s0_,s1_,i64_w,i32_w]
              rfl
             refine pure_ (i:=34) (N:=some 49) (v:=?_) (a':=?_) #[true,true,true,true,true,true,true,true,true,true,true,true,true,true,true,true,true,true,true,true,true,true,true,true,true,true,true,true,true,true,true,true,true,true,true] rfl rfl (any_of HT_.out (by kernel_rfl)) (fun _ _ _ h => h) (Or.inl ⟨by rfl, ?_⟩) ?_ ?_
             rotate_left
             ·intro w'
              go_simp
              with_reducible rfl
             rotate_left
             ·simp only [Act.put,sA_,s0_,s1_,i64_w,i32_w]
              rfl
             refine done_ (done_of HT_.out (by kernel_rfl)) ?_
             try go_wp2
             go_meet
             case rel => exact ⟨_,(true),(by rfl),H',⟨by have:=HK1.out;omega⟩,⟨by (with_reducible repeat (refine blk_drewN ?_ _));exact BK277.out⟩,⟨by repeat ((with_reducible first | exact HB.out | apply pw_below_drewN))⟩⟩
            ·rw [if_neg c17] at H
             have c17b0 : decide (((rd_T52 l0 x10_1).f0) < ((rd_T52 l0 (ji14)).f0)) = false:=decide_eq_false c17
             clear c17
             replace H:=Option.bind_eq_some_iff.mp H
             obtain ⟨t280,A200,H⟩ := H
             replace H : (if t280 = true then ((impl_within.f ((rd_T52 l0 x10_1).f3) 1 15).bind fun t281 => (impl_conflictIn.j1 k1 l0 x3_1 x10_1 l0 (l0.length : Int) x10_1 (!t281) ((rd_T52 l0 x10_1).f0) ((rd_T52 l0 x10_1).f1) ((rd_T52 l0 x10_1).f2) ((rd_T52 l0 x10_1).f3))) else (impl_conflictIn.j1 k1 l0 x3_1 x10_1 l0 (l0.length : Int) x10_1 true ((rd_T52 l0 x10_1).f0) ((rd_T52 l0 x10_1).f1) ((rd_T52 l0 x10_1).f2) ((rd_T52 l0 x10_1).f3))) = some r:=H
             have A20:=Aside0.mk A200
             clear A200
             by_cases c21 : t280 = true
             ·subst c21
              have H1 : ((impl_within.f ((rd_T52 l0 x10_1).f3) 1 15).bind fun t281 => (impl_conflictIn.j1 k1 l0 x3_1 x10_1 l0 (l0.length : Int) x10_1 (!t281) ((rd_T52 l0 x10_1).f0) ((rd_T52 l0 x10_1).f1) ((rd_T52 l0 x10_1).f2) ((rd_T52 l0 x10_1).f3))) = some r:=by rw [if_pos rfl] at H;exact H
              clear H
              have H:=H1
              clear H1
              replace H:=Option.bind_eq_some_iff.mp H
              obtain ⟨t281,A220,H⟩ := H
              replace H : (impl_conflictIn.j1 k1 l0 x3_1 x10_1 l0 (l0.length : Int) x10_1 (!t281) ((rd_T52 l0 x10_1).f0) ((rd_T52 l0 x10_1).f1) ((rd_T52 l0 x10_1).f2) ((rd_T52 l0 x10_1).f3)) = some r:=H
              have A22:=Aside0.mk A220
              clear A220
              have H':=Aside0.mk H
              clear H
              try go_wp2
              have n0_ : Aside0 (((((w6.setCell ⟨gb277,0,none⟩ (.int .i64 ((rd_T52 l0 x10_1).f0))).setCell ⟨gb277,1,none⟩ (.string ((rd_T52 l0 x10_1).f1))).setCell ⟨gb277,2,none⟩ (.bool ((rd_T52 l0 x10_1).f2))).setCell ⟨gb277,3,none⟩ (.int .i64 ((rd_T52 l0 x10_1).f3))).heap[gb277]? = some (.cells #[.int .i64 ((rd_T52 l0 x10_1).f0), .string ((rd_T52 l0 x10_1).f1), .bool ((rd_T52 l0 x10_1).f2), .int .i64 ((rd_T52 l0 x10_1).f3)] 52 (0,0))):=⟨by refine blk_put (cs:=#[.int .i64 ((rd_T52 l0 x10_1).f0), .string ((rd_T52 l0 x10_1).f1), .bool ((rd_T52 l0 x10_1).f2), .int .i64 0]) ?_ 3 _ rfl;refine blk_put (cs:=#[.int .i64 ((rd_T52 l0 x10_1).f0), .string ((rd_T52 l0 x10_1).f1), .bool false, .int .i64 0]) ?_ 2 _ rfl;refine blk_put (cs:=#[.int .i64 ((rd_T52 l0 x10_1).f0), .string (⟨#[]⟩ : ByteArray), .bool false, .int .i64 0]) ?_ 1 _ rfl;refine blk_put (cs:=#[.int .i64 0, .string (⟨#[]⟩ : ByteArray), .bool false, .int .i64 0]) ?_ 0 _ rfl;exact BK277.out⟩
              have n1_ : Aside0 (Below wr.heap.size wr ((((w6.setCell ⟨gb277,0,none⟩ (.int .i64 ((rd_T52 l0 x10_1).f0))).setCell ⟨gb277,1,none⟩ (.string ((rd_T52 l0 x10_1).f1))).setCell ⟨gb277,2,none⟩ (.bool ((rd_T52 l0 x10_1).f2))).setCell ⟨gb277,3,none⟩ (.int .i64 ((rd_T52 l0 x10_1).f3)))):=⟨by repeat ((with_reducible first | exact HB.out | refine below_set ?_ GE277.out))⟩
              (try clear BK277)
              (try clear HB)
              generalize ((((w6.setCell ⟨gb277,0,none⟩ (.int .i64 ((rd_T52 l0 x10_1).f0))).setCell ⟨gb277,1,none⟩ (.string ((rd_T52 l0 x10_1).f1))).setCell ⟨gb277,2,none⟩ (.bool ((rd_T52 l0 x10_1).f2))).setCell ⟨gb277,3,none⟩ (.int .i64 ((rd_T52 l0 x10_1).f3))) = w23 at n0_ n1_ ⊢
              have BK277:=n0_
              have HB:=n1_
              clear n0_ n1_
              have n0_:=Aside0.mk (blk_drew BK277.out)
              have n1_:=Aside0.mk (below_drew1 HB.out)
              clear BK277
              clear HB
              have BK277:=n0_
              have HB:=n1_
              clear n0_ n1_
              have p279 : 0 ≤ ((ji14) : Int):=of_decide_eq_true (by (with_reducible assumption))
              have q279 : (ji14) < (l0.length : Int):=of_decide_eq_true (by (with_reducible assumption))
              obtain ⟨ad279,e279,hx279_0,hx279_1,hx279_2,hx279_3⟩ := at_T52 HR0.out (ji14) p279 q279
              have hw279_3:=hx279_3
              have hw279_2:=hx279_2
              have hw279_1:=hx279_1
              have hw279_0:=hx279_0
              obtain rfl : ad276 = ad279:=(by injection e279)
              replace hx279_0:=(HB.out.cell (World.block_lt_of_cell? wr _ hx279_0)).trans hx279_0
              replace hx279_1:=(HB.out.cell (World.block_lt_of_cell? wr _ hx279_1)).trans hx279_1
              replace hx279_2:=(HB.out.cell (World.block_lt_of_cell? wr _ hx279_2)).trans hx279_2
              replace hx279_3:=(HB.out.cell (World.block_lt_of_cell? wr _ hx279_3)).trans hx279_3
              replace p279:=eq_true p279
              replace q279:=eq_true q279
              refine start_ (n:=35) (S:=fun w' => w'.cell? ⟨gb277,0,none⟩ = some (.int .i64 ((rd_T52 l0 x10_1).f0)) ∧ w'.cell? ⟨gb277,1,none⟩ = some (.string ((rd_T52 l0 x10_1).f1)) ∧ w'.cell? ⟨gb277,2,none⟩ = some (.bool ((rd_T52 l0 x10_1).f2)) ∧ w'.cell? ⟨gb277,3,none⟩ = some (.int .i64 ((rd_T52 l0 x10_1).f3)) ∧ w'.cell? (ad276.add (((ji14)).toNat * 4)) = some (.int .i64 ((rd_T52 l0 (ji14)).f0)) ∧ w'.cell? ⟨(ad276.add (((ji14)).toNat * 4)).block,(ad276.add (((ji14)).toNat * 4)).off + 1,none⟩ = some (.string ((rd_T52 l0 (ji14)).f1)) ∧ w'.cell? ⟨(ad276.add (((ji14)).toNat * 4)).block,(ad276.add (((ji14)).toNat * 4)).off + 2,none⟩ = some (.bool ((rd_T52 l0 (ji14)).f2)) ∧ w'.cell? ⟨(ad276.add (((ji14)).toNat * 4)).block,(ad276.add (((ji14)).toNat * 4)).off + 3,none⟩ = some (.int .i64 ((rd_T52 l0 (ji14)).f3))) (ds := []) #[false,false,false,false,false,false,false,false,false,false,false,false,false,false,false,false,false,false,false,false,false,false,false,false,false,false,false,false,false,false,false,false,false,false,false] (by kernel_rfl) rfl rfl ⟨(blk_cell BK277.out 0).trans rfl,(blk_cell BK277.out 1).trans rfl,(blk_cell BK277.out 2).trans rfl,(blk_cell BK277.out 3).trans rfl,((HB.out.cell (World.block_lt_of_cell? wr _ hw279_0)).trans hw279_0),((HB.out.cell (World.block_lt_of_cell? wr _ hw279_1)).trans hw279_1),((HB.out.cell (World.block_lt_of_cell? wr _ hw279_2)).trans hw279_2),((HB.out.cell (World.block_lt_of_cell? wr _ hw279_3)).trans hw279_3)⟩ (fun hHeld => ?_);refine with_tabW impl_conflictIn.tab5 impl_conflictIn.bits5 (fun HT_ HW_ => ?_)
              generalize w23.drew = w24 at BK277 HB hx279_0 hx279_1 hx279_2 hx279_3 hHeld ⊢
              refine pure_ (i:=0) (N:=some 15) (v:=?_) (a':=?_) #[true,false,false,false,false,false,false,false,false,false,false,false,false,false,false,false,false,false,false,false,false,false,false,false,false,false,false,false,false,false,false,false,false,false,false] rfl rfl (any_of HT_.out (by kernel_rfl)) (fun _ _ _ h => h) (Or.inl ⟨by rfl, ?_⟩) ?_ ?_
              rotate_left
              ·intro w'
               go_simp
               with_reducible rfl
              rotate_left
              ·simp only [Act.put,sA_,s0_,s1_,i64_w,i32_w]
               rfl
              refine pure_ (i:=1) (N:=some 16) (v:=?_) (a':=?_) #[true,true,false,false,false,false,false,false,false,false,false,false,false,false,false,false,false,false,false,false,false,false,false,false,false,false,false,false,false,false,false,false,false,false,false] rfl rfl (any_of HT_.out (by kernel_rfl)) (fun _ _ _ h => h) (Or.inl ⟨by rfl, ?_⟩) ?_ ?_
              rotate_left
              ·intro w'
               go_simp
               with_reducible rfl
              rotate_left
              ·simp only [Act.put,sA_,s0_,s1_,i64_w,i32_w]
               rfl
              refine pure_ (i:=2) (N:=some 17) (v:=?_) (a':=?_) #[true,true,true,false,false,false,false,false,false,false,false,false,false,false,false,false,false,false,false,false,false,false,false,false,false,false,false,false,false,false,false,false,false,false,false] rfl rfl (any_of HT_.out (by kernel_rfl)) (fun _ _ _ h => h) (Or.inl ⟨by rfl, ?_⟩) ?_ ?_
              rotate_left
              ·intro w'
               go_simp
               with_reducible rfl
              rotate_left
              ·simp only [Act.put,sA_,s0_,s1_,i64_w,i32_w]
               rfl
              refine pure_ (i:=3) (N:=some 18) (v:=?_) (a':=?_) #[true,true,true,true,false,false,false,false,false,false,false,false,false,false,false,false,false,false,false,false,false,false,false,false,false,false,false,false,false,false,false,false,false,false,false] rfl rfl (any_of HT_.out (by kernel_rfl)) (fun _ _ _ h => h) (Or.inl ⟨by rfl, ?_⟩) ?_ ?_
              rotate_left
              ·intro w'
               go_simp
               with_reducible rfl
              rotate_left
              ·simp only [Act.put,sA_,s0_,s1_,i64_w,i32_w]
               rfl
              refine take_ (i:=4) (N:=some 19) (v:=?_) (a':=?_) #[true,true,true,true,true,false,false,false,false,false,false,false,false,false,false,false,false,false,false,false,false,false,false,false,false,false,false,false,false,false,false,false,false,false,false] rfl rfl (take_ofW HT_.out HW_.out (by kernel_rfl)) (fun _ _ _ h => h) (Or.inl ⟨by rfl, ?_⟩) hHeld ?_ ?_
              rotate_left
              ·rintro w' ⟨s0,s1,s2,s3,s4,s5,s6,s7⟩
               go_simp
               with_reducible rfl
              rotate_left
              ·simp only [Act.put,sA_,s0_,s1_,i64_w,i32_w]
               rfl
              refine one_ (i:=5) (N:=some 20) #[true,true,true,true,true,true,false,false,false,false,false,false,false,false,false,false,false,false,false,false,false,false,false,false,false,false,false,false,false,false,false,false,false,false,false] rfl rfl (one_of HT_.out (by kernel_rfl)) (by decide) (fun K hK => ?_)
              refine goes_ Try.func39 (by kernel_rfl) rfl #[.int .i64 ((rd_T52 l0 x10_1).f0), .int .i64 0, .int .i64 240] (by rfl) rfl rfl (by (try simp only [List.map_toArray,List.map_cons,List.map_nil]);rfl) ?_
              with_reducible refine (impl_within.calls ((rd_T52 l0 x10_1).f0) 0 240 true _ A11.out).mono ?_
              rintro e w' ⟨rfl,⟨nd,rfl⟩⟩
              refine ⟨_,rfl, ?_⟩
              refine hK.out _ _ ⟨(blk_cell BK277.out 0).trans rfl,(blk_cell BK277.out 1).trans rfl,(blk_cell BK277.out 2).trans rfl,(blk_cell BK277.out 3).trans rfl,((HB.out.cell (World.block_lt_of_cell? wr _ hw279_0)).trans hw279_0),((HB.out.cell (World.block_lt_of_cell? wr _ hw279_1)).trans hw279_1),((HB.out.cell (World.block_lt_of_cell? wr _ hw279_2)).trans hw279_2),((HB.out.cell (World.block_lt_of_cell? wr _ hw279_3)).trans hw279_3)⟩ (fun hHeld => ?_)
              clear hK K
              refine norm_ (a':=?_) ?_ ?_
              rotate_left
              ·show Act.put _ (some 20) _ = _
               simp only [Act.put,sA_,s0_,s1_,i64_w,i32_w]
               rfl
              refine pure_ (i:=6) (N:=some 21) (v:=?_) (a':=?_) #[true,true,true,true,true,true,true,false,false,false,false,false,false,false,false,false,false,false,false,false,false,false,false,false,false,false,false,false,false,false,false,false,false,false,false] rfl rfl (any_of HT_.out (by kernel_rfl)) (fun _ _ _ h => h) (Or.inl ⟨by rfl, ?_⟩) ?_ ?_
              rotate_left
              ·intro w'
               go_simp
               with_reducible rfl
              rotate_left
              ·simp only [Act.put,sA_,s0_,s1_,i64_w,i32_w]
               rfl
              refine pure_ (i:=7) (N:=some 22) (v:=?_) (a':=?_) #[true,true,true,true,true,true,true,true,false,false,false,false,false,false,false,false,false,false,false,false,false,false,false,false,false,false,false,false,false,false,false,false,false,false,false] rfl rfl (any_of HT_.out (by kernel_rfl)) (fun _ _ _ h => h) (Or.inl ⟨by rfl, ?_⟩) ?_ ?_
              rotate_left
              ·intro w'
               go_simp
               with_reducible rfl
              rotate_left
              ·simp only [Act.put,sA_,s0_,s1_,i64_w,i32_w]
               rfl
              refine pure_ (i:=8) (N:=some 23) (v:=?_) (a':=?_) #[true,true,true,true,true,true,true,true,true,false,false,false,false,false,false,false,false,false,false,false,false,false,false,false,false,false,false,false,false,false,false,false,false,false,false] rfl rfl (any_of HT_.out (by kernel_rfl)) (fun _ _ _ h => h) (Or.inl ⟨by rfl, ?_⟩) ?_ ?_
              rotate_left
              ·intro w'
               go_simp
               with_reducible rfl
              rotate_left
              ·simp only [Act.put,sA_,s0_,s1_,i64_w,i32_w]
               rfl
              refine pure_ (i:=9) (N:=some 24) (v:=?_) (a':=?_) #[true,true,true,true,true,true,true,true,true,true,false,false,false,false,false,false,false,false,false,false,false,false,false,false,false,false,false,false,false,false,false,false,false,false,false] rfl rfl (any_of HT_.out (by kernel_rfl)) (fun _ _ _ h => h) (Or.inl ⟨by rfl, ?_⟩) ?_ ?_
              rotate_left
              ·intro w'
               go_simp
               with_reducible rfl
              rotate_left
              ·simp only [Act.put,sA_,s0_,s1_,i64_w,i32_w]
               rfl
              refine pure_ (i:=10) (N:=some 25) (v:=?_) (a':=?_) #[true,true,true,true,true,true,true,true,true,true,true,false,false,false,false,false,false,false,false,false,false,false,false,false,false,false,false,false,false,false,false,false,false,false,false] rfl rfl (any_of HT_.out (by kernel_rfl)) (fun _ _ _ h => h) (Or.inl ⟨by rfl, ?_⟩) ?_ ?_
              rotate_left
              ·intro w'
               go_simp
               with_reducible rfl
              rotate_left
              ·simp only [Act.put,sA_,s0_,s1_,i64_w,i32_w]
               rfl
              refine pure_ (i:=11) (N:=some 26) (v:=?_) (a':=?_) #[true,true,true,true,true,true,true,true,true,true,true,true,false,false,false,false,false,false,false,false,false,false,false,false,false,false,false,false,false,false,false,false,false,false,false] rfl rfl (any_of HT_.out (by kernel_rfl)) (fun _ _ _ h => h) (Or.inl ⟨by rfl, ?_⟩) ?_ ?_
              rotate_left
              ·intro w'
               go_simp
               with_reducible rfl
              rotate_left
              ·simp only [Act.put,sA_,s0_,s1_,i64_w,i32_w]
               rfl
              refine pure_ (i:=12) (N:=some 27) (v:=?_) (a':=?_) #[true,true,true,true,true,true,true,true,true,true,true,true,true,false,false,false,false,false,false,false,false,false,false,false,false,false,false,false,false,false,false,false,false,false,false] rfl rfl (any_of HT_.out (by kernel_rfl)) (fun _ _ _ h => h) (Or.inl ⟨by rfl, ?_⟩) ?_ ?_
              rotate_left
              ·intro w'
               go_simp
               with_reducible rfl
              rotate_left
              ·simp only [Act.put,sA_,s0_,s1_,i64_w,i32_w]
               rfl
              refine pure_ (i:=14) (N:=some 29) (v:=?_) (a':=?_) #[true,true,true,true,true,true,true,true,true,true,true,true,true,false,true,false,false,false,false,false,false,false,false,false,false,false,false,false,false,false,false,false,false,false,false] rfl rfl (any_of HT_.out (by kernel_rfl)) (fun _ _ _ h => h) (Or.inl ⟨by rfl, ?_⟩) ?_ ?_
              rotate_left
              ·intro w'
               go_simp
               with_reducible rfl
              rotate_left
              ·simp only [Act.put,sA_,s0_,s1_,i64_w,i32_w]
               rfl
              refine pure_ (i:=15) (N:=some 30) (v:=?_) (a':=?_) #[true,true,true,true,true,true,true,true,true,true,true,true,true,false,true,true,false,false,false,false,false,false,false,false,false,false,false,false,false,false,false,false,false,false,false] rfl rfl (any_of HT_.out (by kernel_rfl)) (fun _ _ _ h => h) (Or.inl ⟨by rfl, ?_⟩) ?_ ?_
              rotate_left
              ·intro w'
               go_simp
               with_reducible rfl
              rotate_left
              ·simp only [Act.put,sA_,s0_,s1_,i64_w,i32_w]
               rfl
              refine pure_ (i:=16) (N:=some 31) (v:=?_) (a':=?_) #[true,true,true,true,true,true,true,true,true,true,true,true,true,false,true,true,true,false,false,false,false,false,false,false,false,false,false,false,false,false,false,false,false,false,false] rfl rfl (any_of HT_.out (by kernel_rfl)) (fun _ _ _ h => h) (Or.inl ⟨by rfl, ?_⟩) ?_ ?_
              rotate_left
              ·intro w'
               go_simp
               with_reducible rfl
              rotate_left
              ·simp only [Act.put,sA_,s0_,s1_,i64_w,i32_w]
               rfl
              refine pure_ (i:=17) (N:=some 32) (v:=?_) (a':=?_) #[true,true,true,true,true,true,true,true,true,true,true,true,true,false,true,true,true,true,false,false,false,false,false,false,false,false,false,false,false,false,false,false,false,false,false] rfl rfl (any_of HT_.out (by kernel_rfl)) (fun _ _ _ h => h) (Or.inl ⟨by rfl, ?_⟩) ?_ ?_
              rotate_left
              ·intro w'
               go_simp
               with_reducible rfl
              rotate_left
              ·simp only [Act.put,sA_,s0_,s1_,i64_w,i32_w]
               rfl
              refine pure_ (i:=18) (N:=some 33) (v:=?_) (a':=?_) #[true,true,true,true,true,true,true,true,true,true,true,true,true,false,true,true,true,true,true,false,false,false,false,false,false,false,false,false,false,false,false,false,false,false,false] rfl rfl (any_of HT_.out (by kernel_rfl)) (fun _ _ _ h => h) (Or.inl ⟨by rfl, ?_⟩) ?_ ?_
              rotate_left
              ·intro w'
               go_simp
               with_reducible rfl
              rotate_left
              ·simp only [Act.put,sA_,s0_,s1_,i64_w,i32_w]
               rfl
              refine take_ (i:=13) (N:=some 28) (v:=?_) (a':=?_) #[true,true,true,true,true,true,true,true,true,true,true,true,true,true,true,true,true,true,true,false,false,false,false,false,false,false,false,false,false,false,false,false,false,false,false] rfl rfl (take_ofW HT_.out HW_.out (by kernel_rfl)) (fun _ _ _ h => h) (Or.inl ⟨by rfl, ?_⟩) hHeld ?_ ?_
              rotate_left
              ·rintro w' ⟨s0,s1,s2,s3,s4,s5,s6,s7⟩
               go_simp
               with_reducible rfl
              rotate_left
              ·simp only [Act.put,sA_,s0_,s1_,i64_w,i32_w]
               rfl
              refine take_ (i:=19) (N:=some 34) (v:=?_) (a':=?_) #[true,true,true,true,true,true,true,true,true,true,true,true,true,true,true,true,true,true,true,true,false,false,false,false,false,false,false,false,false,false,false,false,false,false,false] rfl rfl (take_ofW HT_.out HW_.out (by kernel_rfl)) (fun _ _ _ h => h) (Or.inl ⟨by rfl, ?_⟩) hHeld ?_ ?_
              rotate_left
              ·rintro w' ⟨s0,s1,s2,s3,s4,s5,s6,s7⟩
               go_simp
               with_reducible rfl
              rotate_left
              ·simp only [Act.put,sA_,s0_,s1_,i64_w,i32_w]
               rfl
              refine pure_ (i:=20) (N:=some 35) (v:=?_) (a':=?_) #[true,true,true,true,true,true,true,true,true,true,true,true,true,true,true,true,true,true,true,true,true,false,false,false,false,false,false,false,false,false,false,false,false,false,false] rfl rfl (any_of HT_.out (by kernel_rfl)) (fun _ _ _ h => h) (Or.inl ⟨by rfl, ?_⟩) ?_ ?_
              rotate_left
              ·intro w'
               go_simp
               with_reducible rfl
              rotate_left
              ·simp only [Act.put,sA_,s0_,s1_,i64_w,i32_w]
               rfl
              refine pure_ (i:=21) (N:=some 36) (v:=?_) (a':=?_) #[true,true,true,true,true,true,true,true,true,true,true,true,true,true,true,true,true,true,true,true,true,true,false,false,false,false,false,false,false,false,false,false,false,false,false] rfl rfl (any_of HT_.out (by kernel_rfl)) (fun _ _ _ h => h) (Or.inl ⟨by rfl, ?_⟩) ?_ ?_
              rotate_left
              ·intro w'
               go_simp
               with_reducible rfl
              rotate_left
              ·simp only [Act.put,sA_,s0_,s1_,i64_w,i32_w]
               rfl
              refine pure_ (i:=22) (N:=some 37) (v:=?_) (a':=?_) #[true,true,true,true,true,true,true,true,true,true,true,true,true,true,true,true,true,true,true,true,true,true,true,false,false,false,false,false,false,false,false,false,false,false,false] rfl rfl (any_of HT_.out (by kernel_rfl)) (fun _ _ _ h => h) (Or.inl ⟨by rfl, ?_⟩) ?_ ?_
              rotate_left
              ·intro w'
               go_simp
               with_reducible rfl
              rotate_left
              ·simp only [Act.put,sA_,s0_,s1_,i64_w,i32_w]
               rfl
              refine pure_ (i:=23) (N:=some 38) (v:=?_) (a':=?_) #[true,true,true,true,true,true,true,true,true,true,true,true,true,true,true,true,true,true,true,true,true,true,true,true,false,false,false,false,false,false,false,false,false,false,false] rfl rfl (any_of HT_.out (by kernel_rfl)) (fun _ _ _ h => h) (Or.inl ⟨by rfl, ?_⟩) ?_ ?_
              rotate_left
              ·intro w'
               go_simp
               with_reducible rfl
              rotate_left
              ·simp only [Act.put,sA_,s0_,s1_,i64_w,i32_w]
               rfl
              refine pure_ (i:=24) (N:=some 39) (v:=?_) (a':=?_) #[true,true,true,true,true,true,true,true,true,true,true,true,true,true,true,true,true,true,true,true,true,true,true,true,true,false,false,false,false,false,false,false,false,false,false] rfl rfl (any_of HT_.out (by kernel_rfl)) (fun _ _ _ h => h) (Or.inl ⟨by rfl, ?_⟩) ?_ ?_
              rotate_left
              ·intro w'
               go_simp
               with_reducible rfl
              rotate_left
              ·simp only [Act.put,sA_,s0_,s1_,i64_w,i32_w]
               rfl
              refine take_ (i:=25) (N:=some 40) (v:=?_) (a':=?_) #[true,true,true,true,true,true,true,true,true,true,true,true,true,true,true,true,true,true,true,true,true,true,true,true,true,true,false,false,false,false,false,false,false,false,false] rfl rfl (take_ofW HT_.out HW_.out (by kernel_rfl)) (fun _ _ _ h => h) (Or.inl ⟨by rfl, ?_⟩) hHeld ?_ ?_
              rotate_left
              ·rintro w' ⟨s0,s1,s2,s3,s4,s5,s6,s7⟩
               go_simp
               with_reducible rfl
              rotate_left
              ·simp only [Act.put,sA_,s0_,s1_,i64_w,i32_w]
               rfl
              refine one_ (i:=26) (N:=some 41) #[true,true,true,true,true,true,true,true,true,true,true,true,true,true,true,true,true,true,true,true,true,true,true,true,true,true,true,false,false,false,false,false,false,false,false] rfl rfl (one_of HT_.out (by kernel_rfl)) (by decide) (fun K hK => ?_)
              refine goes_ Try.func51 (by kernel_rfl) rfl #[.string ((rd_T52 l0 x10_1).f1)] (by rfl) rfl rfl (by (try simp only [List.map_toArray,List.map_cons,List.map_nil]);rfl) ?_
              with_reducible refine (impl_IsValidId.calls k1 ((rd_T52 l0 x10_1).f1) true _ A20.out).mono ?_
              rintro e w' ⟨rfl,⟨nd,rfl⟩⟩
              refine ⟨_,rfl, ?_⟩
              refine hK.out _ _ ⟨(blk_cell BK277.out 0).trans rfl,(blk_cell BK277.out 1).trans rfl,(blk_cell BK277.out 2).trans rfl,(blk_cell BK277.out 3).trans rfl,((HB.out.cell (World.block_lt_of_cell? wr _ hw279_0)).trans hw279_0),((HB.out.cell (World.block_lt_of_cell? wr _ hw279_1)).trans hw279_1),((HB.out.cell (World.block_lt_of_cell? wr _ hw279_2)).trans hw279_2),((HB.out.cell (World.block_lt_of_cell? wr _ hw279_3)).trans hw279_3)⟩ (fun hHeld => ?_)
              clear hK K
              refine norm_ (a':=?_) ?_ ?_
              rotate_left
              ·show Act.put _ (some 41) _ = _
               simp only [Act.put,sA_,s0_,s1_,i64_w,i32_w]
               rfl
              refine pure_ (i:=27) (N:=some 42) (v:=?_) (a':=?_) #[true,true,true,true,true,true,true,true,true,true,true,true,true,true,true,true,true,true,true,true,true,true,true,true,true,true,true,true,false,false,false,false,false,false,false] rfl rfl (any_of HT_.out (by kernel_rfl)) (fun _ _ _ h => h) (Or.inl ⟨by rfl, ?_⟩) ?_ ?_
              rotate_left
              ·intro w'
               go_simp
               with_reducible rfl
              rotate_left
              ·simp only [Act.put,sA_,s0_,s1_,i64_w,i32_w]
               rfl
              refine pure_ (i:=28) (N:=some 43) (v:=?_) (a':=?_) #[true,true,true,true,true,true,true,true,true,true,true,true,true,true,true,true,true,true,true,true,true,true,true,true,true,true,true,true,true,false,false,false,false,false,false] rfl rfl (any_of HT_.out (by kernel_rfl)) (fun _ _ _ h => h) (Or.inl ⟨by rfl, ?_⟩) ?_ ?_
              rotate_left
              ·intro w'
               go_simp
               with_reducible rfl
              rotate_left
              ·simp only [Act.put,sA_,s0_,s1_,i64_w,i32_w]
               rfl
              refine pure_ (i:=29) (N:=some 44) (v:=?_) (a':=?_) #[true,true,true,true,true,true,true,true,true,true,true,true,true,true,true,true,true,true,true,true,true,true,true,true,true,true,true,true,true,true,false,false,false,false,false] rfl rfl (any_of HT_.out (by kernel_rfl)) (fun _ _ _ h => h) (Or.inl ⟨by rfl, ?_⟩) ?_ ?_
              rotate_left
              ·intro w'
               go_simp
               with_reducible rfl
              rotate_left
              ·simp only [Act.put,sA_,s0_,s1_,i64_w,i32_w]
               rfl
              refine pure_ (i:=30) (N:=some 45) (v:=?_) (a':=?_) #[true,true,true,true,true,true,true,true,true,true,true,true,true,true,true,true,true,true,true,true,true,true,true,true,true,true,true,true,true,true,true,false,false,false,false] rfl rfl (any_of HT_.out (by kernel_rfl)) (fun _ _ _ h => h) (Or.inl ⟨by rfl, ?_⟩) ?_ ?_
              rotate_left
              ·intro w'
               go_simp
               with_reducible rfl
              rotate_left
              ·simp only [Act.put,sA_,s0_,s1_,i64_w,i32_w]
               rfl
              refine take_ (i:=31) (N:=some 46) (v:=?_) (a':=?_) #[true,true,true,true,true,true,true,true,true,true,true,true,true,true,true,true,true,true,true,true,true,true,true,true,true,true,true,true,true,true,true,true,false,false,false] rfl rfl (take_ofW HT_.out HW_.out (by kernel_rfl)) (fun _ _ _ h => h) (Or.inl ⟨by rfl, ?_⟩) hHeld ?_ ?_
              rotate_left
              ·rintro w' ⟨s0,s1,s2,s3,s4,s5,s6,s7⟩
               go_simp
               with_reducible rfl
              rotate_left
              ·simp only [Act.put,sA_,s0_,s1_,i64_w,i32_w]
               rfl
              refine one_ (i:=32) (N:=some 47) #[true,true,true,true,true,true,true,true,true,true,true,true,true,true,true,true,true,true,true,true,true,true,true,true,true,true,true,true,true,true,true,true,true,false,false] rfl rfl (one_of HT_.out (by kernel_rfl)) (by decide) (fun K hK => ?_)
              refine goes_ Try.func39 (by kernel_rfl) rfl #[.int .i64 ((rd_T52 l0 x10_1).f3), .int .i64 1, .int .i64 15] (by rfl) rfl rfl (by (try simp only [List.map_toArray,List.map_cons,List.map_nil]);rfl) ?_
              with_reducible refine (impl_within.calls ((rd_T52 l0 x10_1).f3) 1 15 t281 _ A22.out).mono ?_
              rintro e w' ⟨rfl,⟨nd,rfl⟩⟩
              refine ⟨_,rfl, ?_⟩
              refine hK.out _ _ ⟨(blk_cell BK277.out 0).trans rfl,(blk_cell BK277.out 1).trans rfl,(blk_cell BK277.out 2).trans rfl,(blk_cell BK277.out 3).trans rfl,((HB.out.cell (World.block_lt_of_cell? wr _ hw279_0)).trans hw279_0),((HB.out.cell (World.block_lt_of_cell? wr _ hw279_1)).trans hw279_1),((HB.out.cell (World.block_lt_of_cell? wr _ hw279_2)).trans hw279_2),((HB.out.cell (World.block_lt_of_cell? wr _ hw279_3)).trans hw279_3)⟩ (fun hHeld => ?_)
              clear hK K
              refine norm_ (a':=?_) ?_ ?_
              rotate_left
              ·show Act.put _ (some 47) _ = _
               simp only [Act.put,sA_,s0_,s1_,i64_w,i32_w]
               rfl
              refine pure_ (i:=33) (N:=some 48) (v:=?_) (a':=?_) #[true,true,true,true,true,true,true,true,true,true,true,true,true,true,true,true,true,true,true,true,true,true,true,true,true,true,true,true,true,true,true,true,true,true,false] rfl rfl (any_of HT_.out (by kernel_rfl)) (fun _ _ _ h => h) (Or.inl ⟨by rfl, ?_⟩) ?_ ?_
              rotate_left
              ·intro w'
               go_simp
               with_reducible rfl
              rotate_left
              ·simp only [Act.put,sA_,s0_,s1_,i64_w,i32_w]
               rfl
              refine pure_ (i:=34) (N:=some 49) (v:=?_) (a':=?_) #[true,true,true,true,true,true,true,true,true,true,true,true,true,true,true,true,true,true,true,true,true,true,true,true,true,true,true,true,true,true,true,true,true,true,true] rfl rfl (any_of HT_.out (by kernel_rfl)) (fun _ _ _ h => h) (Or.inl ⟨by rfl, ?_⟩) ?_ ?_
              rotate_left
              ·intro w'
               go_simp
               with_reducible rfl
              rotate_left
              ·simp only [Act.put,sA_,s0_,s1_,i64_w,i32_w]
               rfl
              refine done_ (done_of HT_.out (by kernel_rfl)) ?_
              try go_wp2
              go_meet
              case rel => exact ⟨_,(!t281),(by rfl),H',⟨by have:=HK1.out;omega⟩,⟨by (with_reducible repeat (refine blk_drewN ?_ _));exact BK277.out⟩,⟨by repeat ((with_reducible first | exact HB.out | apply pw_below_drewN))⟩⟩
             ·replace c21:=Bool.eq_false_iff.mpr c21
              subst c21
              have H1 : (impl_conflictIn.j1 k1 l0 x3_1 x10_1 l0 (l0.length : Int) x10_1 true ((rd_T52 l0 x10_1).f0) ((rd_T52 l0 x10_1).f1) ((rd_T52 l0 x10_1).f2) ((rd_T52 l0 x10_1).f3)) = some r:=by rw [if_neg (show ¬ (false = true) by decide)] at H;exact H
              clear H
              have H:=H1
              clear H1
              have H':=Aside0.mk H
              clear H
              try go_wp2
              have n0_ : Aside0 (((((w6.setCell ⟨gb277,0,none⟩ (.int .i64 ((rd_T52 l0 x10_1).f0))).setCell ⟨gb277,1,none⟩ (.string ((rd_T52 l0 x10_1).f1))).setCell ⟨gb277,2,none⟩ (.bool ((rd_T52 l0 x10_1).f2))).setCell ⟨gb277,3,none⟩ (.int .i64 ((rd_T52 l0 x10_1).f3))).heap[gb277]? = some (.cells #[.int .i64 ((rd_T52 l0 x10_1).f0), .string ((rd_T52 l0 x10_1).f1), .bool ((rd_T52 l0 x10_1).f2), .int .i64 ((rd_T52 l0 x10_1).f3)] 52 (0,0))):=⟨by refine blk_put (cs:=#[.int .i64 ((rd_T52 l0 x10_1).f0), .string ((rd_T52 l0 x10_1).f1), .bool ((rd_T52 l0 x10_1).f2), .int .i64 0]) ?_ 3 _ rfl;refine blk_put (cs:=#[.int .i64 ((rd_T52 l0 x10_1).f0), .string ((rd_T52 l0 x10_1).f1), .bool false, .int .i64 0]) ?_ 2 _ rfl;refine blk_put (cs:=#[.int .i64 ((rd_T52 l0 x10_1).f0), .string (⟨#[]⟩ : ByteArray), .bool false, .int .i64 0]) ?_ 1 _ rfl;refine blk_put (cs:=#[.int .i64 0, .string (⟨#[]⟩ : ByteArray), .bool false, .int .i64 0]) ?_ 0 _ rfl;exact BK277.out⟩
              have n1_ : Aside0 (Below wr.heap.size wr ((((w6.setCell ⟨gb277,0,none⟩ (.int .i64 ((rd_T52 l0 x10_1).f0))).setCell ⟨gb277,1,none⟩ (.string ((rd_T52 l0 x10_1).f1))).setCell ⟨gb277,2,none⟩ (.bool ((rd_T52 l0 x10_1).f2))).setCell ⟨gb277,3,none⟩ (.int .i64 ((rd_T52 l0 x10_1).f3)))):=⟨by repeat ((with_reducible first | exact HB.out | refine below_set ?_ GE277.out))⟩
              (try clear BK277)
              (try clear HB)
              generalize ((((w6.setCell ⟨gb277,0,none⟩ (.int .i64 ((rd_T52 l0 x10_1).f0))).setCell ⟨gb277,1,none⟩ (.string ((rd_T52 l0 x10_1).f1))).setCell ⟨gb277,2,none⟩ (.bool ((rd_T52 l0 x10_1).f2))).setCell ⟨gb277,3,none⟩ (.int .i64 ((rd_T52 l0 x10_1).f3))) = w25 at n0_ n1_ ⊢
              have BK277:=n0_
              have HB:=n1_
              clear n0_ n1_
              have n0_:=Aside0.mk (blk_drew BK277.out)
              have n1_:=Aside0.mk (below_drew1 HB.out)
              clear BK277
              clear HB
              have BK277:=n0_
              have HB:=n1_
              clear n0_ n1_
              have p279 : 0 ≤ ((ji14) : Int):=of_decide_eq_true (by (with_reducible assumption))
              have q279 : (ji14) < (l0.length : Int):=of_decide_eq_true (by (with_reducible assumption))
              obtain ⟨ad279,e279,hx279_0,hx279_1,hx279_2,hx279_3⟩ := at_T52 HR0.out (ji14) p279 q279
              have hw279_3:=hx279_3
              have hw279_2:=hx279_2
              have hw279_1:=hx279_1
              have hw279_0:=hx279_0
              obtain rfl : ad276 = ad279:=(by injection e279)
              replace hx279_0:=(HB.out.cell (World.block_lt_of_cell? wr _ hx279_0)).trans hx279_0
              replace hx279_1:=(HB.out.cell (World.block_lt_of_cell? wr _ hx279_1)).trans hx279_1
              replace hx279_2:=(HB.out.cell (World.block_lt_of_cell? wr _ hx279_2)).trans hx279_2
              replace hx279_3:=(HB.out.cell (World.block_lt_of_cell? wr _ hx279_3)).trans hx279_3
              replace p279:=eq_true p279
              replace q279:=eq_true q279
              refine start_ (n:=35) (S:=fun w' => w'.cell? ⟨gb277,0,none⟩ = some (.int .i64 ((rd_T52 l0 x10_1).f0)) ∧ w'.cell? ⟨gb277,1,none⟩ = some (.string ((rd_T52 l0 x10_1).f1)) ∧ w'.cell? ⟨gb277,2,none⟩ = some (.bool ((rd_T52 l0 x10_1).f2)) ∧ w'.cell? ⟨gb277,3,none⟩ = some (.int .i64 ((rd_T52 l0 x10_1).f3)) ∧ w'.cell? (ad276.add (((ji14)).toNat * 4)) = some (.int .i64 ((rd_T52 l0 (ji14)).f0)) ∧ w'.cell? ⟨(ad276.add (((ji14)).toNat * 4)).block,(ad276.add (((ji14)).toNat * 4)).off + 1,none⟩ = some (.string ((rd_T52 l0 (ji14)).f1)) ∧ w'.cell? ⟨(ad276.add (((ji14)).toNat * 4)).block,(ad276.add (((ji14)).toNat * 4)).off + 2,none⟩ = some (.bool ((rd_T52 l0 (ji14)).f2)) ∧ w'.cell? ⟨(ad276.add (((ji14)).toNat * 4)).block,(ad276.add (((ji14)).toNat * 4)).off + 3,none⟩ = some (.int .i64 ((rd_T52 l0 (ji14)).f3))) (ds := []) #[false,false,false,false,false,false,false,false,false,false,false,false,false,false,false,false,false,false,false,false,false,false,false,false,false,false,false,false,false,false,false,false,false,false,false] (by kernel_rfl) rfl rfl ⟨(blk_cell BK277.out 0).trans rfl,(blk_cell BK277.out 1).trans rfl,(blk_cell BK277.out 2).trans rfl,(blk_cell BK277.out 3).trans rfl,((HB.out.cell (World.block_lt_of_cell? wr _ hw279_0)).trans hw279_0),((HB.out.cell (World.block_lt_of_cell? wr _ hw279_1)).trans hw279_1),((HB.out.cell (World.block_lt_of_cell? wr _ hw279_2)).trans hw279_2),((HB.out.cell (World.block_lt_of_cell? wr _ hw279_3)).trans hw279_3)⟩ (fun hHeld => ?_);refine with_tabW impl_conflictIn.tab5 impl_conflictIn.bits5 (fun HT_ HW_ => ?_)
              generalize w25.drew = w26 at BK277 HB hx279_0 hx279_1 hx279_2 hx279_3 hHeld ⊢
              refine pure_ (i:=0) (N:=some 15) (v:=?_) (a':=?_) #[true,false,false,false,false,false,false,false,false,false,false,false,false,false,false,false,false,false,false,false,false,false,false,false,false,false,false,false,false,false,false,false,false,false,false] rfl rfl (any_of HT_.out (by kernel_rfl)) (fun _ _ _ h => h) (Or.inl ⟨by rfl, ?_⟩) ?_ ?_
              rotate_left
              ·intro w'
               go_simp
               with_reducible rfl
              rotate_left
              ·simp only [Act.put,sA_,s0_,s1_,i64_w,i32_w]
               rfl
              refine pure_ (i:=1) (N:=some 16) (v:=?_) (a':=?_) #[true,true,false,false,false,false,false,false,false,false,false,false,false,false,false,false,false,false,false,false,false,false,false,false,false,false,false,false,false,false,false,false,false,false,false] rfl rfl (any_of HT_.out (by kernel_rfl)) (fun _ _ _ h => h) (Or.inl ⟨by rfl, ?_⟩) ?_ ?_
              rotate_left
              ·intro w'
               go_simp
               with_reducible rfl
              rotate_left
              ·simp only [Act.put,sA_,s0_,s1_,i64_w,i32_w]
               rfl
              refine pure_ (i:=2) (N:=some 17) (v:=?_) (a':=?_) #[true,true,true,false,false,false,false,false,false,false,false,false,false,false,false,false,false,false,false,false,false,false,false,false,false,false,false,false,false,false,false,false,false,false,false] rfl rfl (any_of HT_.out (by kernel_rfl)) (fun _ _ _ h => h) (Or.inl ⟨by rfl, ?_⟩) ?_ ?_
              rotate_left
              ·intro w'
               go_simp
               with_reducible rfl
              rotate_left
              ·simp only [Act.put,sA_,s0_,s1_,i64_w,i32_w]
               rfl
              refine pure_ (i:=3) (N:=some 18) (v:=?_) (a':=?_) #[true,true,true,true,false,false,false,false,false,false,false,false,false,false,false,false,false,false,false,false,false,false,false,false,false,false,false,false,false,false,false,false,false,false,false] rfl rfl (any_of HT_.out (by kernel_rfl)) (fun _ _ _ h => h) (Or.inl ⟨by rfl, ?_⟩) ?_ ?_
              rotate_left
              ·intro w'
               go_simp
               with_reducible rfl
              rotate_left
              ·simp only [Act.put,sA_,s0_,s1_,i64_w,i32_w]
               rfl
              refine take_ (i:=4) (N:=some 19) (v:=?_) (a':=?_) #[true,true,true,true,true,false,false,false,false,false,false,false,false,false,false,false,false,false,false,false,false,false,false,false,false,false,false,false,false,false,false,false,false,false,false] rfl rfl (take_ofW HT_.out HW_.out (by kernel_rfl)) (fun _ _ _ h => h) (Or.inl ⟨by rfl, ?_⟩) hHeld ?_ ?_
              rotate_left
              ·rintro w' ⟨s0,s1,s2,s3,s4,s5,s6,s7⟩
               go_simp
               with_reducible rfl
              rotate_left
              ·simp only [Act.put,sA_,s0_,s1_,i64_w,i32_w]
               rfl
              refine one_ (i:=5) (N:=some 20) #[true,true,true,true,true,true,false,false,false,false,false,false,false,false,false,false,false,false,false,false,false,false,false,false,false,false,false,false,false,false,false,false,false,false,false] rfl rfl (one_of HT_.out (by kernel_rfl)) (by decide) (fun K hK => ?_)
              refine goes_ Try.func39 (by kernel_rfl) rfl #[.int .i64 ((rd_T52 l0 x10_1).f0), .int .i64 0, .int .i64 240] (by rfl) rfl rfl (by (try simp only [List.map_toArray,List.map_cons,List.map_nil]);rfl) ?_
              with_reducible refine (impl_within.calls ((rd_T52 l0 x10_1).f0) 0 240 true _ A11.out).mono ?_
              rintro e w' ⟨rfl,⟨nd,rfl⟩⟩
              refine ⟨_,rfl, ?_⟩
              refine hK.out _ _ ⟨(blk_cell BK277.out 0).trans rfl,(blk_cell BK277.out 1).trans rfl,(blk_cell BK277.out 2).trans rfl,(blk_cell BK277.out 3).trans rfl,((HB.out.cell (World.block_lt_of_cell? wr _ hw279_0)).trans hw279_0),((HB.out.cell (World.block_lt_of_cell? wr _ hw279_1)).trans hw279_1),((HB.out.cell (World.block_lt_of_cell? wr _ hw279_2)).trans hw279_2),((HB.out.cell (World.block_lt_of_cell? wr _ hw279_3)).trans hw279_3)⟩ (fun hHeld => ?_)
              clear hK K
              refine norm_ (a':=?_) ?_ ?_
              rotate_left
              ·show Act.put _ (some 20) _ = _
               simp only [Act.put,sA_,s0_,s1_,i64_w,i32_w]
               rfl
              refine pure_ (i:=6) (N:=some 21) (v:=?_) (a':=?_) #[true,true,true,true,true,true,true,false,false,false,false,false,false,false,false,false,false,false,false,false,false,false,false,false,false,false,false,false,false,false,false,false,false,false,false] rfl rfl (any_of HT_.out (by kernel_rfl)) (fun _ _ _ h => h) (Or.inl ⟨by rfl, ?_⟩) ?_ ?_
              rotate_left
              ·intro w'
               go_simp
               with_reducible rfl
              rotate_left
              ·simp only [Act.put,sA_,s0_,s1_,i64_w,i32_w]
               rfl
              refine pure_ (i:=7) (N:=some 22) (v:=?_) (a':=?_) #[true,true,true,true,true,true,true,true,false,false,false,false,false,false,false,false,false,false,false,false,false,false,false,false,false,false,false,false,false,false,false,false,false,false,false] rfl rfl (any_of HT_.out (by kernel_rfl)) (fun _ _ _ h => h) (Or.inl ⟨by rfl, ?_⟩) ?_ ?_
              rotate_left
              ·intro w'
               go_simp
               with_reducible rfl
              rotate_left
              ·simp only [Act.put,sA_,s0_,s1_,i64_w,i32_w]
               rfl
              refine pure_ (i:=8) (N:=some 23) (v:=?_) (a':=?_) #[true,true,true,true,true,true,true,true,true,false,false,false,false,false,false,false,false,false,false,false,false,false,false,false,false,false,false,false,false,false,false,false,false,false,false] rfl rfl (any_of HT_.out (by kernel_rfl)) (fun _ _ _ h => h) (Or.inl ⟨by rfl, ?_⟩) ?_ ?_
              rotate_left
              ·intro w'
               go_simp
               with_reducible rfl
              rotate_left
              ·simp only [Act.put,sA_,s0_,s1_,i64_w,i32_w]
               rfl
              refine pure_ (i:=9) (N:=some 24) (v:=?_) (a':=?_) #[true,true,true,true,true,true,true,true,true,true,false,false,false,false,false,false,false,false,false,false,false,false,false,false,false,false,false,false,false,false,false,false,false,false,false] rfl rfl (any_of HT_.out (by kernel_rfl)) (fun _ _ _ h => h) (Or.inl ⟨by rfl, ?_⟩) ?_ ?_
              rotate_left
              ·intro w'
               go_simp
               with_reducible rfl
              rotate_left
              ·simp only [Act.put,sA_,s0_,s1_,i64_w,i32_w]
               rfl
              refine pure_ (i:=10) (N:=some 25) (v:=?_) (a':=?_) #[true,true,true,true,true,true,true,true,true,true,true,false,false,false,false,false,false,false,false,false,false,false,false,false,false,false,false,false,false,false,false,false,false,false,false] rfl rfl (any_of HT_.out (by kernel_rfl)) (fun _ _ _ h => h) (Or.inl ⟨by rfl, ?_⟩) ?_ ?_
              rotate_left
              ·intro w'
               go_simp
               with_reducible rfl
              rotate_left
              ·simp only [Act.put,sA_,s0_,s1_,i64_w,i32_w]
               rfl
              refine pure_ (i:=11) (N:=some 26) (v:=?_) (a':=?_) #[true,true,true,true,true,true,true,true,true,true,true,true,false,false,false,false,false,false,false,false,false,false,false,false,false,false,false,false,false,false,false,false,false,false,false] rfl rfl (any_of HT_.out (by kernel_rfl)) (fun _ _ _ h => h) (Or.inl ⟨by rfl, ?_⟩) ?_ ?_
              rotate_left
              ·intro w'
               go_simp
               with_reducible rfl
              rotate_left
              ·simp only [Act.put,sA_,s0_,s1_,i64_w,i32_w]
               rfl
              refine pure_ (i:=12) (N:=some 27) (v:=?_) (a':=?_) #[true,true,true,true,true,true,true,true,true,true,true,true,true,false,false,false,false,false,false,false,false,false,false,false,false,false,false,false,false,false,false,false,false,false,false] rfl rfl (any_of HT_.out (by kernel_rfl)) (fun _ _ _ h => h) (Or.inl ⟨by rfl, ?_⟩) ?_ ?_
              rotate_left
              ·intro w'
               go_simp
               with_reducible rfl
              rotate_left
              ·simp only [Act.put,sA_,s0_,s1_,i64_w,i32_w]
               rfl
              refine pure_ (i:=14) (N:=some 29) (v:=?_) (a':=?_) #[true,true,true,true,true,true,true,true,true,true,true,true,true,false,true,false,false,false,false,false,false,false,false,false,false,false,false,false,false,false,false,false,false,false,false] rfl rfl (any_of HT_.out (by kernel_rfl)) (fun _ _ _ h => h) (Or.inl ⟨by rfl, ?_⟩) ?_ ?_
              rotate_left
              ·intro w'
               go_simp
               with_reducible rfl
              rotate_left
              ·simp only [Act.put,sA_,s0_,s1_,i64_w,i32_w]
               rfl
              refine pure_ (i:=15) (N:=some 30) (v:=?_) (a':=?_) #[true,true,true,true,true,true,true,true,true,true,true,true,true,false,true,true,false,false,false,false,false,false,false,false,false,false,false,false,false,false,false,false,false,false,false] rfl rfl (any_of HT_.out (by kernel_rfl)) (fun _ _ _ h => h) (Or.inl ⟨by rfl, ?_⟩) ?_ ?_
              rotate_left
              ·intro w'
               go_simp
               with_reducible rfl
              rotate_left
              ·simp only [Act.put,sA_,s0_,s1_,i64_w,i32_w]
               rfl
              refine pure_ (i:=16) (N:=some 31) (v:=?_) (a':=?_) #[true,true,true,true,true,true,true,true,true,true,true,true,true,false,true,true,true,false,false,false,false,false,false,false,false,false,false,false,false,false,false,false,false,false,false] rfl rfl (any_of HT_.out (by kernel_rfl)) (fun _ _ _ h => h) (Or.inl ⟨by rfl, ?_⟩) ?_ ?_
              rotate_left
              ·intro w'
               go_simp
               with_reducible rfl
              rotate_left
              ·simp only [Act.put,sA_,s0_,s1_,i64_w,i32_w]
               rfl
              refine pure_ (i:=17) (N:=some 32) (v:=?_) (a':=?_) #[true,true,true,true,true,true,true,true,true,true,true,true,true,false,true,true,true,true,false,false,false,false,false,false,false,false,false,false,false,false,false,false,false,false,false] rfl rfl (any_of HT_.out (by kernel_rfl)) (fun _ _ _ h => h) (Or.inl ⟨by rfl, ?_⟩) ?_ ?_
              rotate_left
              ·intro w'
               go_simp
               with_reducible rfl
              rotate_left
              ·simp only [Act.put,sA_,s0_,s1_,i64_w,i32_w]
               rfl
              refine pure_ (i:=18) (N:=some 33) (v:=?_) (a':=?_) #[true,true,true,true,true,true,true,true,true,true,true,true,true,false,true,true,true,true,true,false,false,false,false,false,false,false,false,false,false,false,false,false,false,false,false] rfl rfl (any_of HT_.out (by kernel_rfl)) (fun _ _ _ h => h) (Or.inl ⟨by rfl, ?_⟩) ?_ ?_
              rotate_left
              ·intro w'
               go_simp
               with_reducible rfl
              rotate_left
              ·simp only [Act.put,sA_,s0_,s1_,i64_w,i32_w]
               rfl
              refine take_ (i:=13) (N:=some 28) (v:=?_) (a':=?_) #[true,true,true,true,true,true,true,true,true,true,true,true,true,true,true,true,true,true,true,false,false,false,false,false,false,false,false,false,false,false,false,false,false,false,false] rfl rfl (take_ofW HT_.out HW_.out (by kernel_rfl)) (fun _ _ _ h => h) (Or.inl ⟨by rfl, ?_⟩) hHeld ?_ ?_
              rotate_left
              ·rintro w' ⟨s0,s1,s2,s3,s4,s5,s6,s7⟩
               go_simp
               with_reducible rfl
              rotate_left
              ·simp only [Act.put,sA_,s0_,s1_,i64_w,i32_w]
               rfl
              refine take_ (i:=19) (N:=some 34) (v:=?_) (a':=?_) #[true,true,true,true,true,true,true,true,true,true,true,true,true,true,true,true,true,true,true,true,false,false,false,false,false,false,false,false,false,false,false,false,false,false,false] rfl rfl (take_ofW HT_.out HW_.out (by kernel_rfl)) (fun _ _ _ h => h) (Or.inl ⟨by rfl, ?_⟩) hHeld ?_ ?_
              rotate_left
              ·rintro w' ⟨s0,s1,s2,s3,s4,s5,s6,s7⟩
               go_simp
               with_reducible rfl
              rotate_left
              ·simp only [Act.put,sA_,s0_,s1_,i64_w,i32_w]
               rfl
              refine pure_ (i:=20) (N:=some 35) (v:=?_) (a':=?_) #[true,true,true,true,true,true,true,true,true,true,true,true,true,true,true,true,true,true,true,true,true,false,false,false,false,false,false,false,false,false,false,false,false,false,false] rfl rfl (any_of HT_.out (by kernel_rfl)) (fun _ _ _ h => h) (Or.inl ⟨by rfl, ?_⟩) ?_ ?_
              rotate_left
              ·intro w'
               go_simp
               with_reducible rfl
              rotate_left
              ·simp only [Act.put,sA_,s0_,s1_,i64_w,i32_w]
               rfl
              refine pure_ (i:=21) (N:=some 36) (v:=?_) (a':=?_) #[true,true,true,true,true,true,true,true,true,true,true,true,true,true,true,true,true,true,true,true,true,true,false,false,false,false,false,false,false,false,false,false,false,false,false] rfl rfl (any_of HT_.out (by kernel_rfl)) (fun _ _ _ h => h) (Or.inl ⟨by rfl, ?_⟩) ?_ ?_
              rotate_left
              ·intro w'
               go_simp
               with_reducible rfl
              rotate_left
              ·simp only [Act.put,sA_,s0_,s1_,i64_w,i32_w]
               rfl
              refine pure_ (i:=22) (N:=some 37) (v:=?_) (a':=?_) #[true,true,true,true,true,true,true,true,true,true,true,true,true,true,true,true,true,true,true,true,true,true,true,false,false,false,false,false,false,false,false,false,false,false,false] rfl rfl (any_of HT_.out (by kernel_rfl)) (fun _ _ _ h => h) (Or.inl ⟨by rfl, ?_⟩) ?_ ?_
              rotate_left
              ·intro w'
               go_simp
               with_reducible rfl
              rotate_left
              ·simp only [Act.put,sA_,s0_,s1_,i64_w,i32_w]
               rfl
              refine pure_ (i:=23) (N:=some 38) (v:=?_) (a':=?_) #[true,true,true,true,true,true,true,true,true,true,true,true,true,true,true,true,true,true,true,true,true,true,true,true,false,false,false,false,false,false,false,false,false,false,false] rfl rfl (any_of HT_.out (by kernel_rfl)) (fun _ _ _ h => h) (Or.inl ⟨by rfl, ?_⟩) ?_ ?_
              rotate_left
              ·intro w'
               go_simp
               with_reducible rfl
              rotate_left
              ·simp only [Act.put,sA_,s0_,s1_,i64_w,i32_w]
               rfl
              refine pure_ (i:=24) (N:=some 39) (v:=?_) (a':=?_) #[true,true,true,true,true,true,true,true,true,true,true,true,true,true,true,true,true,true,true,true,true,true,true,true,true,false,false,false,false,false,false,false,false,false,false] rfl rfl (any_of HT_.out (by kernel_rfl)) (fun _ _ _ h => h) (Or.inl ⟨by rfl, ?_⟩) ?_ ?_
              rotate_left
              ·intro w'
               go_simp
               with_reducible rfl
              rotate_left
              ·simp only [Act.put,sA_,s0_,s1_,i64_w,i32_w]
               rfl
              refine take_ (i:=25) (N:=some 40) (v:=?_) (a':=?_) #[true,true,true,true,true,true,true,true,true,true,true,true,true,true,true,true,true,true,true,true,true,true,true,true,true,true,false,false,false,false,false,false,false,false,false] rfl rfl (take_ofW HT_.out HW_.out (by kernel_rfl)) (fun _ _ _ h => h) (Or.inl ⟨by rfl, ?_⟩) hHeld ?_ ?_
              rotate_left
              ·rintro w' ⟨s0,s1,s2,s3,s4,s5,s6,s7⟩
               go_simp
               with_reducible rfl
              rotate_left
              ·simp only [Act.put,sA_,s0_,s1_,i64_w,i32_w]
               rfl
              refine one_ (i:=26) (N:=some 41) #[true,true,true,true,true,true,true,true,true,true,true,true,true,true,true,true,true,true,true,true,true,true,true,true,true,true,true,false,false,false,false,false,false,false,false] rfl rfl (one_of HT_.out (by kernel_rfl)) (by decide) (fun K hK => ?_)
              refine goes_ Try.func51 (by kernel_rfl) rfl #[.string ((rd_T52 l0 x10_1).f1)] (by rfl) rfl rfl (by (try simp only [List.map_toArray,List.map_cons,List.map_nil]);rfl) ?_
              with_reducible refine (impl_IsValidId.calls k1 ((rd_T52 l0 x10_1).f1) false _ A20.out).mono ?_
              rintro e w' ⟨rfl,⟨nd,rfl⟩⟩
              refine ⟨_,rfl, ?_⟩
              refine hK.out _ _ ⟨(blk_cell BK277.out 0).trans rfl,(blk_cell BK277.out 1).trans rfl,(blk_cell BK277.out 2).trans rfl,(blk_cell BK277.out 3).trans rfl,((HB.out.cell (World.block_lt_of_cell? wr _ hw279_0)).trans hw279_0),((HB.out.cell (World.block_lt_of_cell? wr _ hw279_1)).trans hw279_1),((HB.out.cell (World.block_lt_of_cell? wr _ hw279_2)).trans hw279_2),((HB.out.cell (World.block_lt_of_cell? wr _ hw279_3)).trans hw279_3)⟩ (fun hHeld => ?_)
              clear hK K
              refine norm_ (a':=?_) ?_ ?_
              rotate_left
              ·show Act.put _ (some 41) _ = _
               simp only [Act.put,sA_,s0_,s1_,i64_w,i32_w]
               rfl
              refine pure_ (i:=27) (N:=some 42) (v:=?_) (a':=?_) #[true,true,true,true,true,true,true,true,true,true,true,true,true,true,true,true,true,true,true,true,true,true,true,true,true,true,true,true,false,false,false,false,false,false,false] rfl rfl (any_of HT_.out (by kernel_rfl)) (fun _ _ _ h => h) (Or.inl ⟨by rfl, ?_⟩) ?_ ?_
              rotate_left
              ·intro w'
               go_simp
               with_reducible rfl
              rotate_left
              ·simp only [Act.put,sA_,s0_,s1_,i64_w,i32_w]
               rfl
              refine pure_ (i:=28) (N:=some 43) (v:=?_) (a':=?_) #[true,true,true,true,true,true,true,true,true,true,true,true,true,true,true,true,true,true,true,true,true,true,true,true,true,true,true,true,true,false,false,false,false,false,false] rfl rfl (any_of HT_.out (by kernel_rfl)) (fun _ _ _ h => h) (Or.inl ⟨by rfl, ?_⟩) ?_ ?_
              rotate_left
              ·intro w'
               go_simp
               with_reducible rfl
              rotate_left
              ·simp only [Act.put,sA_,s0_,s1_,i64_w,i32_w]
               rfl
              refine pure_ (i:=29) (N:=some 44) (v:=?_) (a':=?_) #[true,true,true,true,true,true,true,true,true,true,true,true,true,true,true,true,true,true,true,true,true,true,true,true,true,true,true,true,true,true,false,false,false,false,false] rfl rfl (any_of HT_.out (by kernel_rfl)) (fun _ _ _ h => h) (Or.inl ⟨by rfl, ?_⟩) ?_ ?_
              rotate_left
              ·intro w'
               go_simp
               with_reducible rfl
              rotate_left
              ·simp only [Act.put,sA_,s0_,s1_,i64_w,i32_w]
               rfl
              refine pure_ (i:=30) (N:=some 45) (v:=undef) (a':=?_) #[true,true,true,true,true,true,true,true,true,true,true,true,true,true,true,true,true,true,true,true,true,true,true,true,true,true,true,true,true,true,true,false,false,false,false] rfl rfl (any_of HT_.out (by kernel_rfl)) (fun _ _ _ h => h) (Or.inr ⟨by rfl,rfl⟩) ?_ ?_
              rotate_left
              ·simp only [Act.put,sA_,s0_,s1_,i64_w,i32_w]
               rfl
              refine pure_ (i:=31) (N:=some 46) (v:=undef) (a':=?_) #[true,true,true,true,true,true,true,true,true,true,true,true,true,true,true,true,true,true,true,true,true,true,true,true,true,true,true,true,true,true,true,true,false,false,false] rfl rfl (any_of HT_.out (by kernel_rfl)) (fun _ _ _ h => h) (Or.inr ⟨by rfl,rfl⟩) ?_ ?_
              rotate_left
              ·simp only [Act.put,sA_,s0_,s1_,i64_w,i32_w]
               rfl
              refine pure_ (i:=32) (N:=some 47) (v:=undef) (a':=?_) #[true,true,true,true,true,true,true,true,true,true,true,true,true,true,true,true,true,true,true,true,true,true,true,true,true,true,true,true,true,true,true,true,true,false,false] rfl rfl (any_of HT_.out (by kernel_rfl)) (fun _ _ _ h => h) (Or.inr ⟨by rfl,rfl⟩) ?_ ?_
              rotate_left
              ·simp only [Act.put,sA_,s0_,s1_,i64_w,i32_w]
               rfl
              refine pure_ (i:=33) (N:=some 48) (v:=undef) (a':=?_) #[true,true,true,true,true,true,true,true,true,true,true,true,true,true,true,true,true,true,true,true,true,true,true,true,true,true,true,true,true,true,true,true,true,true,false] rfl rfl (any_of HT_.out (by kernel_rfl)) (fun _ _ _ h => h) (Or.inr ⟨by rfl,rfl⟩) ?_ ?_
              rotate_left
              ·simp only [Act.put,sA_,s0_,s1_,i64_w,i32_w]
               rfl
              refine pure_ (i:=34) (N:=some 49) (v:=?_) (a':=?_) #[true,true,true,true,true,true,true,true,true,true,true,true,true,true,true,true,true,true,true,true,true,true,true,true,true,true,true,true,true,true,true,true,true,true,true] rfl rfl (any_of HT_.out (by kernel_rfl)) (fun _ _ _ h => h) (Or.inl ⟨by rfl, ?_⟩) ?_ ?_
              rotate_left
              ·intro w'
               go_simp
               with_reducible rfl
              rotate_left
              ·simp only [Act.put,sA_,s0_,s1_,i64_w,i32_w]
               rfl
              refine done_ (done_of HT_.out (by kernel_rfl)) ?_
              try go_wp2
              go_meet
              case rel => exact ⟨_,(true),(by rfl),H',⟨by have:=HK1.out;omega⟩,⟨by (with_reducible repeat (refine blk_drewN ?_ _));exact BK277.out⟩,⟨by repeat ((with_reducible first | exact HB.out | apply pw_below_drewN))⟩⟩
           ·rw [if_neg c16] at H
            exact absurd H (by simp)
          ·rw [if_neg c15] at H
           exact absurd H (by simp)
         ·rw [if_neg c13] at H
          have c13b0 : decide (0 < x10_1) = false:=decide_eq_false c13
          clear c13
          replace H:=Option.bind_eq_some_iff.mp H
          obtain ⟨t282,A270,H⟩ := H
          replace H : (if t282 = true then ((impl_within.f ((rd_T52 l0 x10_1).f3) 1 15).bind fun t283 => (impl_conflictIn.j1 k1 l0 x3_1 x10_1 l0 (l0.length : Int) x10_1 (!t283) ((rd_T52 l0 x10_1).f0) ((rd_T52 l0 x10_1).f1) ((rd_T52 l0 x10_1).f2) ((rd_T52 l0 x10_1).f3))) else (impl_conflictIn.j1 k1 l0 x3_1 x10_1 l0 (l0.length : Int) x10_1 true ((rd_T52 l0 x10_1).f0) ((rd_T52 l0 x10_1).f1) ((rd_T52 l0 x10_1).f2) ((rd_T52 l0 x10_1).f3))) = some r:=H
          have A27:=Aside0.mk A270
          clear A270
          by_cases c28 : t282 = true
          ·subst c28
           have H1 : ((impl_within.f ((rd_T52 l0 x10_1).f3) 1 15).bind fun t283 => (impl_conflictIn.j1 k1 l0 x3_1 x10_1 l0 (l0.length : Int) x10_1 (!t283) ((rd_T52 l0 x10_1).f0) ((rd_T52 l0 x10_1).f1) ((rd_T52 l0 x10_1).f2) ((rd_T52 l0 x10_1).f3))) = some r:=by rw [if_pos rfl] at H;exact H
           clear H
           have H:=H1
           clear H1
           replace H:=Option.bind_eq_some_iff.mp H
           obtain ⟨t283,A290,H⟩ := H
           replace H : (impl_conflictIn.j1 k1 l0 x3_1 x10_1 l0 (l0.length : Int) x10_1 (!t283) ((rd_T52 l0 x10_1).f0) ((rd_T52 l0 x10_1).f1) ((rd_T52 l0 x10_1).f2) ((rd_T52 l0 x10_1).f3)) = some r:=H
           have A29:=Aside0.mk A290
           clear A290
           have H':=Aside0.mk H
           clear H
           try go_wp2
           have n0_ : Aside0 (((((w6.setCell ⟨gb277,0,none⟩ (.int .i64 ((rd_T52 l0 x10_1).f0))).setCell ⟨gb277,1,none⟩ (.string ((rd_T52 l0 x10_1).f1))).setCell ⟨gb277,2,none⟩ (.bool ((rd_T52 l0 x10_1).f2))).setCell ⟨gb277,3,none⟩ (.int .i64 ((rd_T52 l0 x10_1).f3))).heap[gb277]? = some (.cells #[.int .i64 ((rd_T52 l0 x10_1).f0), .string ((rd_T52 l0 x10_1).f1), .bool ((rd_T52 l0 x10_1).f2), .int .i64 ((rd_T52 l0 x10_1).f3)] 52 (0,0))):=⟨by refine blk_put (cs:=#[.int .i64 ((rd_T52 l0 x10_1).f0), .string ((rd_T52 l0 x10_1).f1), .bool ((rd_T52 l0 x10_1).f2), .int .i64 0]) ?_ 3 _ rfl;refine blk_put (cs:=#[.int .i64 ((rd_T52 l0 x10_1).f0), .string ((rd_T52 l0 x10_1).f1), .bool false, .int .i64 0]) ?_ 2 _ rfl;refine blk_put (cs:=#[.int .i64 ((rd_T52 l0 x10_1).f0), .string (⟨#[]⟩ : ByteArray), .bool false, .int .i64 0]) ?_ 1 _ rfl;refine blk_put (cs:=#[.int .i64 0, .string (⟨#[]⟩ : ByteArray), .bool false, .int .i64 0]) ?_ 0 _ rfl;exact BK277.out⟩
           have n1_ : Aside0 (Below wr.heap.size wr ((((w6.setCell ⟨gb277,0,none⟩ (.int .i64 ((rd_T52 l0 x10_1).f0))).setCell ⟨gb277,1,none⟩ (.string ((rd_T52 l0 x10_1).f1))).setCell ⟨gb277,2,none⟩ (.bool ((rd_T52 l0 x10_1).f2))).setCell ⟨gb277,3,none⟩ (.int .i64 ((rd_T52 l0 x10_1).f3)))):=⟨by repeat ((with_reducible first | exact HB.out | refine below_set ?_ GE277.out))⟩
           (try clear BK277)
           (try clear HB)
           generalize ((((w6.setCell ⟨gb277,0,none⟩ (.int .i64 ((rd_T52 l0 x10_1).f0))).setCell ⟨gb277,1,none⟩ (.string ((rd_T52 l0 x10_1).f1))).setCell ⟨gb277,2,none⟩ (.bool ((rd_T52 l0 x10_1).f2))).setCell ⟨gb277,3,none⟩ (.int .i64 ((rd_T52 l0 x10_1).f3))) = w30 at n0_ n1_ ⊢
           have BK277:=n0_
           have HB:=n1_
           clear n0_ n1_
           have n0_:=Aside0.mk (blk_drew BK277.out)
           have n1_:=Aside0.mk (below_drew1 HB.out)
           clear BK277
           clear HB
           have BK277:=n0_
           have HB:=n1_
           clear n0_ n1_
           refine start_ (n:=35) (S:=fun w' => w'.cell? ⟨gb277,0,none⟩ = some (.int .i64 ((rd_T52 l0 x10_1).f0)) ∧ w'.cell? ⟨gb277,1,none⟩ = some (.string ((rd_T52 l0 x10_1).f1)) ∧ w'.cell? ⟨gb277,2,none⟩ = some (.bool ((rd_T52 l0 x10_1).f2)) ∧ w'.cell? ⟨gb277,3,none⟩ = some (.int .i64 ((rd_T52 l0 x10_1).f3))) (ds := []) #[false,false,false,false,false,false,false,false,false,false,false,false,false,false,false,false,false,false,false,false,false,false,false,false,false,false,false,false,false,false,false,false,false,false,false] (by kernel_rfl) rfl rfl ⟨(blk_cell BK277.out 0).trans rfl,(blk_cell BK277.out 1).trans rfl,(blk_cell BK277.out 2).trans rfl,(blk_cell BK277.out 3).trans rfl⟩ (fun hHeld => ?_);refine with_tabW impl_conflictIn.tab5 impl_conflictIn.bits5 (fun HT_ HW_ => ?_)
           generalize w30.drew = w31 at BK277 HB hHeld ⊢
           refine pure_ (i:=0) (N:=some 15) (v:=?_) (a':=?_) #[true,false,false,false,false,false,false,false,false,false,false,false,false,false,false,false,false,false,false,false,false,false,false,false,false,false,false,false,false,false,false,false,false,false,false] rfl rfl (any_of HT_.out (by kernel_rfl)) (fun _ _ _ h => h) (Or.inl ⟨by rfl, ?_⟩) ?_ ?_
           rotate_left
           ·intro w'
            go_simp
            with_reducible rfl
           rotate_left
           ·simp only [Act.put,sA_,s0_,s1_,i64_w,i32_w]
            rfl
           refine pure_ (i:=1) (N:=some 16) (v:=?_) (a':=?_) #[true,true,false,false,false,false,false,false,false,false,false,false,false,false,false,false,false,false,false,false,false,false,false,false,false,false,false,false,false,false,false,false,false,false,false] rfl rfl (any_of HT_.out (by kernel_rfl)) (fun _ _ _ h => h) (Or.inl ⟨by rfl, ?_⟩) ?_ ?_
           rotate_left
           ·intro w'
            go_simp
            with_reducible rfl
           rotate_left
           ·simp only [Act.put,sA_,s0_,s1_,i64_w,i32_w]
            rfl
           refine pure_ (i:=2) (N:=some 17) (v:=?_) (a':=?_) #[true,true,true,false,false,false,false,false,false,false,false,false,false,false,false,false,false,false,false,false,false,false,false,false,false,false,false,false,false,false,false,false,false,false,false] rfl rfl (any_of HT_.out (by kernel_rfl)) (fun _ _ _ h => h) (Or.inl ⟨by rfl, ?_⟩) ?_ ?_
           rotate_left
           ·intro w'
            go_simp
            with_reducible rfl
           rotate_left
           ·simp only [Act.put,sA_,s0_,s1_,i64_w,i32_w]
            rfl
           refine pure_ (i:=3) (N:=some 18) (v:=?_) (a':=?_) #[true,true,true,true,false,false,false,false,false,false,false,false,false,false,false,false,false,false,false,false,false,false,false,false,false,false,false,false,false,false,false,false,false,false,false] rfl rfl (any_of HT_.out (by kernel_rfl)) (fun _ _ _ h => h) (Or.inl ⟨by rfl, ?_⟩) ?_ ?_
           rotate_left
           ·intro w'
            go_simp
            with_reducible rfl
           rotate_left
           ·simp only [Act.put,sA_,s0_,s1_,i64_w,i32_w]
            rfl
           refine take_ (i:=4) (N:=some 19) (v:=?_) (a':=?_) #[true,true,true,true,true,false,false,false,false,false,false,false,false,false,false,false,false,false,false,false,false,false,false,false,false,false,false,false,false,false,false,false,false,false,false] rfl rfl (take_ofW HT_.out HW_.out (by kernel_rfl)) (fun _ _ _ h => h) (Or.inl ⟨by rfl, ?_⟩) hHeld ?_ ?_
           rotate_left
           ·rintro w' ⟨s0,s1,s2,s3⟩
            go_simp
            with_reducible rfl
           rotate_left
           ·simp only [Act.put,sA_,s0_,s1_,i64_w,i32_w]
            rfl
           refine one_ (i:=5) (N:=some 20) #[true,true,true,true,true,true,false,false,false,false,false,false,false,false,false,false,false,false,false,false,false,false,false,false,false,false,false,false,false,false,false,false,false,false,false] rfl rfl (one_of HT_.out (by kernel_rfl)) (by decide) (fun K hK => ?_)
           refine goes_ Try.func39 (by kernel_rfl) rfl #[.int .i64 ((rd_T52 l0 x10_1).f0), .int .i64 0, .int .i64 240] (by rfl) rfl rfl (by (try simp only [List.map_toArray,List.map_cons,List.map_nil]);rfl) ?_
           with_reducible refine (impl_within.calls ((rd_T52 l0 x10_1).f0) 0 240 true _ A11.out).mono ?_
           rintro e w' ⟨rfl,⟨nd,rfl⟩⟩
           refine ⟨_,rfl, ?_⟩
           refine hK.out _ _ ⟨(blk_cell BK277.out 0).trans rfl,(blk_cell BK277.out 1).trans rfl,(blk_cell BK277.out 2).trans rfl,(blk_cell BK277.out 3).trans rfl⟩ (fun hHeld => ?_)
           clear hK K
           refine norm_ (a':=?_) ?_ ?_
           rotate_left
           ·show Act.put _ (some 20) _ = _
            simp only [Act.put,sA_,s0_,s1_,i64_w,i32_w]
            rfl
           refine pure_ (i:=6) (N:=some 21) (v:=?_) (a':=?_) #[true,true,true,true,true,true,true,false,false,false,false,false,false,false,false,false,false,false,false,false,false,false,false,false,false,false,false,false,false,false,false,false,false,false,false] rfl rfl (any_of HT_.out (by kernel_rfl)) (fun _ _ _ h => h) (Or.inl ⟨by rfl, ?_⟩) ?_ ?_
           rotate_left
           ·intro w'
            go_simp
            with_reducible rfl
           rotate_left
           ·simp only [Act.put,sA_,s0_,s1_,i64_w,i32_w]
            rfl
           refine pure_ (i:=7) (N:=some 22) (v:=?_) (a':=?_) #[true,true,true,true,true,true,true,true,false,false,false,false,false,false,false,false,false,false,false,false,false,false,false,false,false,false,false,false,false,false,false,false,false,false,false] rfl rfl (any_of HT_.out (by kernel_rfl)) (fun _ _ _ h => h) (Or.inl ⟨by rfl, ?_⟩) ?_ ?_
           rotate_left
           ·intro w'
            go_simp
            with_reducible rfl
           rotate_left
           ·simp only [Act.put,sA_,s0_,s1_,i64_w,i32_w]
            rfl
           refine pure_ (i:=8) (N:=some 23) (v:=?_) (a':=?_) #[true,true,true,true,true,true,true,true,true,false,false,false,false,false,false,false,false,false,false,false,false,false,false,false,false,false,false,false,false,false,false,false,false,false,false] rfl rfl (any_of HT_.out (by kernel_rfl)) (fun _ _ _ h => h) (Or.inl ⟨by rfl, ?_⟩) ?_ ?_
           rotate_left
           ·intro w'
            go_simp
            with_reducible rfl
           rotate_left
           ·simp only [Act.put,sA_,s0_,s1_,i64_w,i32_w]
            rfl
           refine pure_ (i:=9) (N:=some 24) (v:=?_) (a':=?_) #[true,true,true,true,true,true,true,true,true,true,false,false,false,false,false,false,false,false,false,false,false,false,false,false,false,false,false,false,false,false,false,false,false,false,false] rfl rfl (any_of HT_.out (by kernel_rfl)) (fun _ _ _ h => h) (Or.inl ⟨by rfl, ?_⟩) ?_ ?_
           rotate_left
           ·intro w'
            go_simp
            with_reducible rfl
           rotate_left
           ·simp only [Act.put,sA_,s0_,s1_,i64_w,i32_w]
            rfl
           refine pure_ (i:=10) (N:=some 25) (v:=?_) (a':=?_) #[true,true,true,true,true,true,true,true,true,true,true,false,false,false,false,false,false,false,false,false,false,false,false,false,false,false,false,false,false,false,false,false,false,false,false] rfl rfl (any_of HT_.out (by kernel_rfl)) (fun _ _ _ h => h) (Or.inl ⟨by rfl, ?_⟩) ?_ ?_
           rotate_left
           ·intro w'
            go_simp
            with_reducible rfl
           rotate_left
           ·simp only [Act.put,sA_,s0_,s1_,i64_w,i32_w]
            rfl
           refine pure_ (i:=11) (N:=some 26) (v:=?_) (a':=?_) #[true,true,true,true,true,true,true,true,true,true,true,true,false,false,false,false,false,false,false,false,false,false,false,false,false,false,false,false,false,false,false,false,false,false,false] rfl rfl (any_of HT_.out (by kernel_rfl)) (fun _ _ _ h => h) (Or.inl ⟨by rfl, ?_⟩) ?_ ?_
           rotate_left
           ·intro w'
            go_simp
            with_reducible rfl
           rotate_left
           ·simp only [Act.put,sA_,s0_,s1_,i64_w,i32_w]
            rfl
           refine pure_ (i:=12) (N:=some 27) (v:=undef) (a':=?_) #[true,true,true,true,true,true,true,true,true,true,true,true,true,false,false,false,false,false,false,false,false,false,false,false,false,false,false,false,false,false,false,false,false,false,false] rfl rfl (any_of HT_.out (by kernel_rfl)) (fun _ _ _ h => h) (Or.inr ⟨by rfl,rfl⟩) ?_ ?_
           rotate_left
           ·simp only [Act.put,sA_,s0_,s1_,i64_w,i32_w]
            rfl
           refine pure_ (i:=13) (N:=some 28) (v:=undef) (a':=?_) #[true,true,true,true,true,true,true,true,true,true,true,true,true,true,false,false,false,false,false,false,false,false,false,false,false,false,false,false,false,false,false,false,false,false,false] rfl rfl (any_of HT_.out (by kernel_rfl)) (fun _ _ _ h => h) (Or.inr ⟨by rfl,rfl⟩) ?_ ?_
           rotate_left
           ·simp only [Act.put,sA_,s0_,s1_,i64_w,i32_w]
            rfl
           refine pure_ (i:=14) (N:=some 29) (v:=undef) (a':=?_) #[true,true,true,true,true,true,true,true,true,true,true,true,true,true,true,false,false,false,false,false,false,false,false,false,false,false,false,false,false,false,false,false,false,false,false] rfl rfl (any_of HT_.out (by kernel_rfl)) (fun _ _ _ h => h) (Or.inr ⟨by rfl,rfl⟩) ?_ ?_
           rotate_left
           ·simp only [Act.put,sA_,s0_,s1_,i64_w,i32_w]
            rfl
           refine pure_ (i:=15) (N:=some 30) (v:=undef) (a':=?_) #[true,true,true,true,true,true,true,true,true,true,true,true,true,true,true,true,false,false,false,false,false,false,false,false,false,false,false,false,false,false,false,false,false,false,false] rfl rfl (any_of HT_.out (by kernel_rfl)) (fun _ _ _ h => h) (Or.inr ⟨by rfl,rfl⟩) ?_ ?_
           rotate_left
           ·simp only [Act.put,sA_,s0_,s1_,i64_w,i32_w]
            rfl
           refine pure_ (i:=16) (N:=some 31) (v:=undef) (a':=?_) #[true,true,true,true,true,true,true,true,true,true,true,true,true,true,true,true,true,false,false,false,false,false,false,false,false,false,false,false,false,false,false,false,false,false,false] rfl rfl (any_of HT_.out (by kernel_rfl)) (fun _ _ _ h => h) (Or.inr ⟨by rfl,rfl⟩) ?_ ?_
           rotate_left
           ·simp only [Act.put,sA_,s0_,s1_,i64_w,i32_w]
            rfl
           refine pure_ (i:=17) (N:=some 32) (v:=undef) (a':=?_) #[true,true,true,true,true,true,true,true,true,true,true,true,true,true,true,true,true,true,false,false,false,false,false,false,false,false,false,false,false,false,false,false,false,false,false] rfl rfl (any_of HT_.out (by kernel_rfl)) (fun _ _ _ h => h) (Or.inr ⟨by rfl,rfl⟩) ?_ ?_
           rotate_left
           ·simp only [Act.put,sA_,s0_,s1_,i64_w,i32_w]
            rfl
           refine pure_ (i:=18) (N:=some 33) (v:=undef) (a':=?_) #[true,true,true,true,true,true,true,true,true,true,true,true,true,true,true,true,true,true,true,false,false,false,false,false,false,false,false,false,false,false,false,false,false,false,false] rfl rfl (any_of HT_.out (by kernel_rfl)) (fun _ _ _ h => h) (Or.inr ⟨by rfl,rfl⟩) ?_ ?_
           rotate_left
           ·simp only [Act.put,sA_,s0_,s1_,i64_w,i32_w]
            rfl
           refine pure_ (i:=19) (N:=some 34) (v:=undef) (a':=?_) #[true,true,true,true,true,true,true,true,true,true,true,true,true,true,true,true,true,true,true,true,false,false,false,false,false,false,false,false,false,false,false,false,false,false,false] rfl rfl (any_of HT_.out (by kernel_rfl)) (fun _ _ _ h => h) (Or.inr ⟨by rfl,rfl⟩) ?_ ?_
           rotate_left
           ·simp only [Act.put,sA_,s0_,s1_,i64_w,i32_w]
            rfl
           refine pure_ (i:=20) (N:=some 35) (v:=undef) (a':=?_) #[true,true,true,true,true,true,true,true,true,true,true,true,true,true,true,true,true,true,true,true,true,false,false,false,false,false,false,false,false,false,false,false,false,false,false] rfl rfl (any_of HT_.out (by kernel_rfl)) (fun _ _ _ h => h) (Or.inr ⟨by rfl,rfl⟩) ?_ ?_
           rotate_left
           ·simp only [Act.put,sA_,s0_,s1_,i64_w,i32_w]
            rfl
           refine pure_ (i:=21) (N:=some 36) (v:=?_) (a':=?_) #[true,true,true,true,true,true,true,true,true,true,true,true,true,true,true,true,true,true,true,true,true,true,false,false,false,false,false,false,false,false,false,false,false,false,false] rfl rfl (any_of HT_.out (by kernel_rfl)) (fun _ _ _ h => h) (Or.inl ⟨by rfl, ?_⟩) ?_ ?_
           rotate_left
           ·intro w'
            go_simp
            with_reducible rfl
           rotate_left
           ·simp only [Act.put,sA_,s0_,s1_,i64_w,i32_w]
            rfl
           refine pure_ (i:=22) (N:=some 37) (v:=?_) (a':=?_) #[true,true,true,true,true,true,true,true,true,true,true,true,true,true,true,true,true,true,true,true,true,true,true,false,false,false,false,false,false,false,false,false,false,false,false] rfl rfl (any_of HT_.out (by kernel_rfl)) (fun _ _ _ h => h) (Or.inl ⟨by rfl, ?_⟩) ?_ ?_
           rotate_left
           ·intro w'
            go_simp
            with_reducible rfl
           rotate_left
           ·simp only [Act.put,sA_,s0_,s1_,i64_w,i32_w]
            rfl
           refine pure_ (i:=23) (N:=some 38) (v:=?_) (a':=?_) #[true,true,true,true,true,true,true,true,true,true,true,true,true,true,true,true,true,true,true,true,true,true,true,true,false,false,false,false,false,false,false,false,false,false,false] rfl rfl (any_of HT_.out (by kernel_rfl)) (fun _ _ _ h => h) (Or.inl ⟨by rfl, ?_⟩) ?_ ?_
           rotate_left
           ·intro w'
            go_simp
            with_reducible rfl
           rotate_left
           ·simp only [Act.put,sA_,s0_,s1_,i64_w,i32_w]
            rfl
           refine pure_ (i:=24) (N:=some 39) (v:=?_) (a':=?_) #[true,true,true,true,true,true,true,true,true,true,true,true,true,true,true,true,true,true,true,true,true,true,true,true,true,false,false,false,false,false,false,false,false,false,false] rfl rfl (any_of HT_.out (by kernel_rfl)) (fun _ _ _ h => h) (Or.inl ⟨by rfl, ?_⟩) ?_ ?_
           rotate_left
           ·intro w'
            go_simp
            with_reducible rfl
           rotate_left
           ·simp only [Act.put,sA_,s0_,s1_,i64_w,i32_w]
            rfl
           refine take_ (i:=25) (N:=some 40) (v:=?_) (a':=?_) #[true,true,true,true,true,true,true,true,true,true,true,true,true,true,true,true,true,true,true,true,true,true,true,true,true,true,false,false,false,false,false,false,false,false,false] rfl rfl (take_ofW HT_.out HW_.out (by kernel_rfl)) (fun _ _ _ h => h) (Or.inl ⟨by rfl, ?_⟩) hHeld ?_ ?_
           rotate_left
           ·rintro w' ⟨s0,s1,s2,s3⟩
            go_simp
            with_reducible rfl
           rotate_left
           ·simp only [Act.put,sA_,s0_,s1_,i64_w,i32_w]
            rfl
           refine one_ (i:=26) (N:=some 41) #[true,true,true,true,true,true,true,true,true,true,true,true,true,true,true,true,true,true,true,true,true,true,true,true,true,true,true,false,false,false,false,false,false,false,false] rfl rfl (one_of HT_.out (by kernel_rfl)) (by decide) (fun K hK => ?_)
           refine goes_ Try.func51 (by kernel_rfl) rfl #[.string ((rd_T52 l0 x10_1).f1)] (by rfl) rfl rfl (by (try simp only [List.map_toArray,List.map_cons,List.map_nil]);rfl) ?_
           with_reducible refine (impl_IsValidId.calls k1 ((rd_T52 l0 x10_1).f1) true _ A27.out).mono ?_
           rintro e w' ⟨rfl,⟨nd,rfl⟩⟩
           refine ⟨_,rfl, ?_⟩
           refine hK.out _ _ ⟨(blk_cell BK277.out 0).trans rfl,(blk_cell BK277.out 1).trans rfl,(blk_cell BK277.out 2).trans rfl,(blk_cell BK277.out 3).trans rfl⟩ (fun hHeld => ?_)
           clear hK K
           refine norm_ (a':=?_) ?_ ?_
           rotate_left
           ·show Act.put _ (some 41) _ = _
            simp only [Act.put,sA_,s0_,s1_,i64_w,i32_w]
            rfl
           refine pure_ (i:=27) (N:=some 42) (v:=?_) (a':=?_) #[true,true,true,true,true,true,true,true,true,true,true,true,true,true,true,true,true,true,true,true,true,true,true,true,true,true,true,true,false,false,false,false,false,false,false] rfl rfl (any_of HT_.out (by kernel_rfl)) (fun _ _ _ h => h) (Or.inl ⟨by rfl, ?_⟩) ?_ ?_
           rotate_left
           ·intro w'
            go_simp
            with_reducible rfl
           rotate_left
           ·simp only [Act.put,sA_,s0_,s1_,i64_w,i32_w]
            rfl
           refine pure_ (i:=28) (N:=some 43) (v:=?_) (a':=?_) #[true,true,true,true,true,true,true,true,true,true,true,true,true,true,true,true,true,true,true,true,true,true,true,true,true,true,true,true,true,false,false,false,false,false,false] rfl rfl (any_of HT_.out (by kernel_rfl)) (fun _ _ _ h => h) (Or.inl ⟨by rfl, ?_⟩) ?_ ?_
           rotate_left
           ·intro w'
            go_simp
            with_reducible rfl
           rotate_left
           ·simp only [Act.put,sA_,s0_,s1_,i64_w,i32_w]
            rfl
           refine pure_ (i:=29) (N:=some 44) (v:=?_) (a':=?_) #[true,true,true,true,true,true,true,true,true,true,true,true,true,true,true,true,true,true,true,true,true,true,true,true,true,true,true,true,true,true,false,false,false,false,false] rfl rfl (any_of HT_.out (by kernel_rfl)) (fun _ _ _ h => h) (Or.inl ⟨by rfl, ?_⟩) ?_ ?_
           rotate_left
           ·intro w'
            go_simp
            with_reducible rfl
           rotate_left
           ·simp only [Act.put,sA_,s0_,s1_,i64_w,i32_w]
            rfl
           refine pure_ (i:=30) (N:=some 45) (v:=?_) (a':=?_) #[true,true,true,true,true,true,true,true,true,true,true,true,true,true,true,true,true,true,true,true,true,true,true,true,true,true,true,true,true,true,true,false,false,false,false] rfl rfl (any_of HT_.out (by kernel_rfl)) (fun _ _ _ h => h) (Or.inl ⟨by rfl, ?_⟩) ?_ ?_
           rotate_left
           ·intro w'
            go_simp
            with_reducible rfl
           rotate_left
           ·simp only [Act.put,sA_,s0_,s1_,i64_w,i32_w]
            rfl
           refine take_ (i:=31) (N:=some 46) (v:=?_) (a':=?_) #[true,true,true,true,true,true,true,true,true,true,true,true,true,true,true,true,true,true,true,true,true,true,true,true,true,true,true,true,true,true,true,true,false,false,false] rfl rfl (take_ofW HT_.out HW_.out (by kernel_rfl)) (fun _ _ _ h => h) (Or.inl ⟨by rfl, ?_⟩) hHeld ?_ ?_
           rotate_left
           ·rintro w' ⟨s0,s1,s2,s3⟩
            go_simp
            with_reducible rfl
           rotate_left
           ·simp only [Act.put,sA_,s0_,s1_,i64_w,i32_w]
            rfl
           refine one_ (i:=32) (N:=some 47) #[true,true,true,true,true,true,true,true,true,true,true,true,true,true,true,true,true,true,true,true,true,true,true,true,true,true,true,true,true,true,true,true,true,false,false] rfl rfl (one_of HT_.out (by kernel_rfl)) (by decide) (fun K hK => ?_)
           refine goes_ Try.func39 (by kernel_rfl) rfl #[.int .i64 ((rd_T52 l0 x10_1).f3), .int .i64 1, .int .i64 15] (by rfl) rfl rfl (by (try simp only [List.map_toArray,List.map_cons,List.map_nil]);rfl) ?_
           with_reducible refine (impl_within.calls ((rd_T52 l0 x10_1).f3) 1 15 t283 _ A29.out).mono ?_
           rintro e w' ⟨rfl,⟨nd,rfl⟩⟩
           refine ⟨_,rfl, ?_⟩
           refine hK.out _ _ ⟨(blk_cell BK277.out 0).trans rfl,(blk_cell BK277.out 1).trans rfl,(blk_cell BK277.out 2).trans rfl,(blk_cell BK277.out 3).trans rfl⟩ (fun hHeld => ?_)
           clear hK K
           refine norm_ (a':=?_) ?_ ?_
           rotate_left
           ·show Act.put _ (some 47) _ = _
            simp only [Act.put,sA_,s0_,s1_,i64_w,i32_w]
            rfl
           refine pure_ (i:=33) (N:=some 48) (v:=?_) (a':=?_) #[true,true,true,true,true,true,true,true,true,true,true,true,true,true,true,true,true,true,true,true,true,true,true,true,true,true,true,true,true,true,true,true,true,true,false] rfl rfl (any_of HT_.out (by kernel_rfl)) (fun _ _ _ h => h) (Or.inl ⟨by rfl, ?_⟩) ?_ ?_
           rotate_left
           ·intro w'
            go_simp
            with_reducible rfl
           rotate_left
           ·simp only [Act.put,sA_,s0_,s1_,i64_w,i32_w]
            rfl
           refine pure_ (i:=34) (N:=some 49) (v:=?_) (a':=?_) #[true,true,true,true,true,true,true,true,true,true,true,true,true,true,true,true,true,true,true,true,true,true,true,true,true,true,true,true,true,true,true,true,true,true,true] rfl rfl (any_of HT_.out (by kernel_rfl)) (fun _ _ _ h => h) (Or.inl ⟨by rfl, ?_⟩) ?_ ?_
           rotate_left
           ·intro w'
            go_simp
            with_reducible rfl
           rotate_left
           ·simp only [Act.put,sA_,s0_,s1_,i64_w,i32_w]
            rfl
           refine done_ (done_of HT_.out (by kernel_rfl)) ?_
           try go_wp2
           go_meet
           case rel => exact ⟨_,(!t283),(by rfl),H',⟨by have:=HK1.out;omega⟩,⟨by (with_reducible repeat (refine blk_drewN ?_ _));exact BK277.out⟩,⟨by repeat ((with_reducible first | exact HB.out | apply pw_below_drewN))⟩⟩
          ·replace c28:=Bool.eq_false_iff.mpr c28
           subst c28
           have H1 : (impl_conflictIn.j1 k1 l0 x3_1 x10_1 l0 (l0.length : Int) x10_1 true ((rd_T52 l0 x10_1).f0) ((rd_T52 l0 x10_1).f1) ((rd_T52 l0 x10_1).f2) ((rd_T52 l0 x10_1).f3)) = some r:=by rw [if_neg (show ¬ (false = true) by decide)] at H;exact H
           clear H
           have H:=H1
           clear H1
           have H':=Aside0.mk H
           clear H
           try go_wp2
           have n0_ : Aside0 (((((w6.setCell ⟨gb277,0,none⟩ (.int .i64 ((rd_T52 l0 x10_1).f0))).setCell ⟨gb277,1,none⟩ (.string ((rd_T52 l0 x10_1).f1))).setCell ⟨gb277,2,none⟩ (.bool ((rd_T52 l0 x10_1).f2))).setCell ⟨gb277,3,none⟩ (.int .i64 ((rd_T52 l0 x10_1).f3))).heap[gb277]? = some (.cells #[.int .i64 ((rd_T52 l0 x10_1).f0), .string ((rd_T52 l0 x10_1).f1), .bool ((rd_T52 l0 x10_1).f2), .int .i64 ((rd_T52 l0 x10_1).f3)] 52 (0,0))):=⟨by refine blk_put (cs:=#[.int .i64 ((rd_T52 l0 x10_1).f0), .string ((rd_T52 l0 x10_1).f1), .bool ((rd_T52 l0 x10_1).f2), .int .i64 0]) ?_ 3 _ rfl;refine blk_put (cs:=#[.int .i64 ((rd_T52 l0 x10_1).f0), .string ((rd_T52 l0 x10_1).f1), .bool false, .int .i64 0]) ?_ 2 _ rfl;refine blk_put (cs:=#[.int .i64 ((rd_T52 l0 x10_1).f0), .string (⟨#[]⟩ : ByteArray), .bool false, .int .i64 0]) ?_ 1 _ rfl;refine blk_put (cs:=#[.int .i64 0, .string (⟨#[]⟩ : ByteArray), .bool false, .int .i64 0]) ?_ 0 _ rfl;exact BK277.out⟩
           have n1_ : Aside0 (Below wr.heap.size wr ((((w6.setCell ⟨gb277,0,none⟩ (.int .i64 ((rd_T52 l0 x10_1).f0))).setCell ⟨gb277,1,none⟩ (.string ((rd_T52 l0 x10_1).f1))).setCell ⟨gb277,2,none⟩ (.bool ((rd_T52 l0 x10_1).f2))).setCell ⟨gb277,3,none⟩ (.int .i64 ((rd_T52 l0 x10_1).f3)))):=⟨by repeat ((with_reducible first | exact HB.out | refine below_set ?_ GE277.out))⟩
           (try clear BK277)
           (try clear HB)
           generalize ((((w6.setCell ⟨gb277,0,none⟩ (.int .i64 ((rd_T52 l0 x10_1).f0))).setCell ⟨gb277,1,none⟩ (.string ((rd_T52 l0 x10_1).f1))).setCell ⟨gb277,2,none⟩ (.bool ((rd_T52 l0 x10_1).f2))).setCell ⟨gb277,3,none⟩ (.int .i64 ((rd_T52 l0 x10_1).f3))) = w32 at n0_ n1_ ⊢
           have BK277:=n0_
           have HB:=n1_
           clear n0_ n1_
           have n0_:=Aside0.mk (blk_drew BK277.out)
           have n1_:=Aside0.mk (below_drew1 HB.out)
           clear BK277
           clear HB
           have BK277:=n0_
           have HB:=n1_
           clear n0_ n1_
           refine start_ (n:=35) (S:=fun w' => w'.cell? ⟨gb277,0,none⟩ = some (.int .i64 ((rd_T52 l0 x10_1).f0)) ∧ w'.cell? ⟨gb277,1,none⟩ = some (.string ((rd_T52 l0 x10_1).f1)) ∧ w'.cell? ⟨gb277,2,none⟩ = some (.bool ((rd_T52 l0 x10_1).f2)) ∧ w'.cell? ⟨gb277,3,none⟩ = some (.int .i64 ((rd_T52 l0 x10_1).f3))) (ds := []) #[false,false,false,false,false,false,false,false,false,false,false,false,false,false,false,false,false,false,false,false,false,false,false,false,false,false,false,false,false,false,false,false,false,false,false] (by kernel_rfl) rfl rfl ⟨(blk_cell BK277.out 0).trans rfl,(blk_cell BK277.out 1).trans rfl,(blk_cell BK277.out 2).trans rfl,(blk_cell BK277.out 3).trans rfl⟩ (fun hHeld => ?_);refine with_tabW impl_conflictIn.tab5 impl_conflictIn.bits5 (fun HT_ HW_ => ?_)
           generalize w32.drew = w33 at BK277 HB hHeld ⊢
           refine pure_ (i:=0) (N:=some 15) (v:=?_) (a':=?_) #[true,false,false,false,false,false,false,false,false,false,false,false,false,false,false,false,false,false,false,false,false,false,false,false,false,false,false,false,false,false,false,false,false,false,false] rfl rfl (any_of HT_.out (by kernel_rfl)) (fun _ _ _ h => h) (Or.inl ⟨by rfl, ?_⟩) ?_ ?_
           rotate_left
           ·intro w'
            go_simp
            with_reducible rfl
           rotate_left
           ·simp only [Act.put,sA_,s0_,s1_,i64_w,i32_w]
            rfl
           refine pure_ (i:=1) (N:=some 16) (v:=?_) (a':=?_) #[true,true,false,false,false,false,false,false,false,false,false,false,false,false,false,false,false,false,false,false,false,false,false,false,false,false,false,false,false,false,false,false,false,false,false] rfl rfl (any_of HT_.out (by kernel_rfl)) (fun _ _ _ h => h) (Or.inl ⟨by rfl, ?_⟩) ?_ ?_
           rotate_left
           ·intro w'
            go_simp
            with_reducible rfl
           rotate_left
           ·simp only [Act.put,sA_,s0_,s1_,i64_w,i32_w]
            rfl
           refine pure_ (i:=2) (N:=some 17) (v:=?_) (a':=?_) #[true,true,true,false,false,false,false,false,false,false,false,false,false,false,false,false,false,false,false,false,false,false,false,false,false,false,false,false,false,false,false,false,false,false,false] rfl rfl (any_of HT_.out (by kernel_rfl)) (fun _ _ _ h => h) (Or.inl ⟨by rfl, ?_⟩) ?_ ?_
           rotate_left
           ·intro w'
            go_simp
            with_reducible rfl
           rotate_left
           ·simp only [Act.put,sA_,s0_,s1_,i64_w,i32_w]
            rfl
           refine pure_ (i:=3) (N:=some 18) (v:=?_) (a':=?_) #[true,true,true,true,false,false,false,false,false,false,false,false,false,false,false,false,false,false,false,false,false,false,false,false,false,false,false,false,false,false,false,false,false,false,false] rfl rfl (any_of HT_.out (by kernel_rfl)) (fun _ _ _ h => h) (Or.inl ⟨by rfl, ?_⟩) ?_ ?_
           rotate_left
           ·intro w'
            go_simp
            with_reducible rfl
           rotate_left
           ·simp only [Act.put,sA_,s0_,s1_,i64_w,i32_w]
            rfl
           refine take_ (i:=4) (N:=some 19) (v:=?_) (a':=?_) #[true,true,true,true,true,false,false,false,false,false,false,false,false,false,false,false,false,false,false,false,false,false,false,false,false,false,false,false,false,false,false,false,false,false,false] rfl rfl (take_ofW HT_.out HW_.out (by kernel_rfl)) (fun _ _ _ h => h) (Or.inl ⟨by rfl, ?_⟩) hHeld ?_ ?_
           rotate_left
           ·rintro w' ⟨s0,s1,s2,s3⟩
            go_simp
            with_reducible rfl
           rotate_left
           ·simp only [Act.put,sA_,s0_,s1_,i64_w,i32_w]
            rfl
           refine one_ (i:=5) (N:=some 20) #[true,true,true,true,true,true,false,false,false,false,false,false,false,false,false,false,false,false,false,false,false,false,false,false,false,false,false,false,false,false,false,false,false,false,false] rfl rfl (one_of HT_.out (by kernel_rfl)) (by decide) (fun K hK => ?_)
           refine goes_ Try.func39 (by kernel_rfl) rfl #[.int .i64 ((rd_T52 l0 x10_1).f0), .int .i64 0, .int .i64 240] (by rfl) rfl rfl (by (try simp only [List.map_toArray,List.map_cons,List.map_nil]);rfl) ?_
           with_reducible refine (impl_within.calls ((rd_T52 l0 x10_1).f0) 0 240 true _ A11.out).mono ?_
           rintro e w' ⟨rfl,⟨nd,rfl⟩⟩
           refine ⟨_,rfl, ?_⟩
           refine hK.out _ _ ⟨(blk_cell BK277.out 0).trans rfl,(blk_cell BK277.out 1).trans rfl,(blk_cell BK277.out 2).trans rfl,(blk_cell BK277.out 3).trans rfl⟩ (fun hHeld => ?_)
           clear hK K
           refine norm_ (a':=?_) ?_ ?_
           rotate_left
           ·show Act.put _ (some 20) _ = _
            simp only [Act.put,sA_,s0_,s1_,i64_w,i32_w]
            rfl
           refine pure_ (i:=6) (N:=some 21) (v:=?_) (a':=?_) #[true,true,true,true,true,true,true,false,false,false,false,false,false,false,false,false,false,false,false,false,false,false,false,false,false,false,false,false,false,false,false,false,false,false,false] rfl rfl (any_of HT_.out (by kernel_rfl)) (fun _ _ _ h => h) (Or.inl ⟨by rfl, ?_⟩) ?_ ?_
           rotate_left
           ·intro w'
            go_simp
            with_reducible rfl
           rotate_left
           ·simp only [Act.put,sA_,s0_,s1_,i64_w,i32_w]
            rfl
           refine pure_ (i:=7) (N:=some 22) (v:=?_) (a':=?_) #[true,true,true,true,true,true,true,true,false,false,false,false,false,false,false,false,false,false,false,false,false,false,false,false,false,false,false,false,false,false,false,false,false,false,false] rfl rfl (any_of HT_.out (by kernel_rfl)) (fun _ _ _ h => h) (Or.inl ⟨by rfl, ?_⟩) ?_ ?_
           rotate_left
           ·intro w'
            go_simp
            with_reducible rfl
           rotate_left
           ·simp only [Act.put,sA_,s0_,s1_,i64_w,i32_w]
            rfl
           refine pure_ (i:=8) (N:=some 23) (v:=?_) (a':=?_) #[true,true,true,true,true,true,true,true,true,false,false,false,false,false,false,false,false,false,false,false,false,false,false,false,false,false,false,false,false,false,false,false,false,false,false] rfl rfl (any_of HT_.out (by kernel_rfl)) (fun _ _ _ h => h) (Or.inl ⟨by rfl, ?_⟩) ?_ ?_
           rotate_left
           ·intro w'
            go_simp
            with_reducible rfl
           rotate_left
           ·simp only [Act.put,sA_,s0_,s1_,i64_w,i32_w]
            rfl
           refine pure_ (i:=9) (N:=some 24) (v:=?_) (a':=?_) #[true,true,true,true,true,true,true,true,true,true,false,false,false,false,false,false,false,false,false,false,false,false,false,false,false,false,false,false,false,false,false,false,false,false,false] rfl rfl (any_of HT_.out (by kernel_rfl)) (fun _ _ _ h => h) (Or.inl ⟨by rfl, ?_⟩) ?_ ?_
           rotate_left
           ·intro w'
            go_simp
            with_reducible rfl
           rotate_left
           ·simp only [Act.put,sA_,s0_,s1_,i64_w,i32_w]
            rfl
           refine pure_ (i:=10) (N:=some 25) (v:=?_) (a':=?_) #[true,true,true,true,true,true,true,true,true,true,true,false,false,false,false,false,false,false,false,false,false,false,false,false,false,false,false,false,false,false,false,false,false,false,false] rfl rfl (any_of HT_.out (by kernel_rfl)) (fun _ _ _ h => h) (Or.inl ⟨by rfl, ?_⟩) ?_ ?_
           rotate_left
           ·intro w'
            go_simp
            with_reducible rfl
           rotate_left
           ·simp only [Act.put,sA_,s0_,s1_,i64_w,i32_w]
            rfl
           refine pure_ (i:=11) (N:=some 26) (v:=?_) (a':=?_) #[true,true,true,true,true,true,true,true,true,true,true,true,false,false,false,false,false,false,false,false,false,false,false,false,false,false,false,false,false,false,false,false,false,false,false] rfl rfl (any_of HT_.out (by kernel_rfl)) (fun _ _ _ h => h) (Or.inl ⟨by rfl, ?_⟩) ?_ ?_
           rotate_left
           ·intro w'
            go_simp
            with_reducible rfl
           rotate_left
           ·simp only [Act.put,sA_,s0_,s1_,i64_w,i32_w]
            rfl
           refine pure_ (i:=12) (N:=some 27) (v:=undef) (a':=?_) #[true,true,true,true,true,true,true,true,true,true,true,true,true,false,false,false,false,false,false,false,false,false,false,false,false,false,false,false,false,false,false,false,false,false,false] rfl rfl (any_of HT_.out (by kernel_rfl)) (fun _ _ _ h => h) (Or.inr ⟨by rfl,rfl⟩) ?_ ?_
           rotate_left
           ·simp only [Act.put,sA_,s0_,s1_,i64_w,i32_w]
            rfl
           refine pure_ (i:=13) (N:=some 28) (v:=undef) (a':=?_) #[true,true,true,true,true,true,true,true,true,true,true,true,true,true,false,false,false,false,false,false,false,false,false,false,false,false,false,false,false,false,false,false,false,false,false] rfl rfl (any_of HT_.out (by kernel_rfl)) (fun _ _ _ h => h) (Or.inr ⟨by rfl,rfl⟩) ?_ ?_
           rotate_left
           ·simp only [Act.put,sA_,s0_,s1_,i64_w,i32_w]
            rfl
           refine pure_ (i:=14) (N:=some 29) (v:=undef) (a':=?_) #[true,true,true,true,true,true,true,true,true,true,true,true,true,true,true,false,false,false,false,false,false,false,false,false,false,false,false,false,false,false,false,false,false,false,false] rfl rfl (any_of HT_.out (by kernel_rfl)) (fun _ _ _ h => h) (Or.inr ⟨by rfl,rfl⟩) ?_ ?_
           rotate_left
           ·simp only [Act.put,sA_,s0_,s1_,i64_w,i32_w]
            rfl
           refine pure_ (i:=15) (N:=some 30) (v:=undef) (a':=?_) #[true,true,true,true,true,true,true,true,true,true,true,true,true,true,true,true,false,false,false,false,false,false,false,false,false,false,false,false,false,false,false,false,false,false,false] rfl rfl (any_of HT_.out (by kernel_rfl)) (fun _ _ _ h => h) (Or.inr ⟨by rfl,rfl⟩) ?_ ?_
           rotate_left
           ·simp only [Act.put,sA_,s0_,s1_,i64_w,i32_w]
            rfl
           refine pure_ (i:=16) (N:=some 31) (v:=undef) (a':=?_) #[true,true,true,true,true,true,true,true,true,true,true,true,true,true,true,true,true,false,false,false,false,false,false,false,false,false,false,false,false,false,false,false,false,false,false] rfl rfl (any_of HT_.out (by kernel_rfl)) (fun _ _ _ h => h) (Or.inr ⟨by rfl,rfl⟩) ?_ ?_
           rotate_left
           ·simp only [Act.put,sA_,s0_,s1_,i64_w,i32_w]
            rfl
           refine pure_ (i:=17) (N:=some 32) (v:=undef) (a':=?_) #[true,true,true,true,true,true,true,true,true,true,true,true,true,true,true,true,true,true,false,false,false,false,false,false,false,false,false,false,false,false,false,false,false,false,false] rfl rfl (any_of HT_.out (by kernel_rfl)) (fun _ _ _ h => h) (Or.inr ⟨by rfl,rfl⟩) ?_ ?_
           rotate_left
           ·simp only [Act.put,sA_,s0_,s1_,i64_w,i32_w]
            rfl
           refine pure_ (i:=18) (N:=some 33) (v:=undef) (a':=?_) #[true,true,true,true,true,true,true,true,true,true,true,true,true,true,true,true,true,true,true,false,false,false,false,false,false,false,false,false,false,false,false,false,false,false,false] rfl rfl (any_of HT_.out (by kernel_rfl)) (fun _ _ _ h => h) (Or.inr ⟨by rfl,rfl⟩) ?_ ?_
           rotate_left
           ·simp only [Act.put,sA_,s0_,s1_,i64_w,i32_w]
            rfl
           refine pure_ (i:=19) (N:=some 34) (v:=undef) (a':=?_) #[true,true,true,true,true,true,true,true,true,true,true,true,true,true,true,true,true,true,true,true,false,false,false,false,false,false,false,false,false,false,false,false,false,false,false] rfl rfl (any_of HT_.out (by kernel_rfl)) (fun _ _ _ h => h) (Or.inr ⟨by rfl,rfl⟩) ?_ ?_
           rotate_left
           ·simp only [Act.put,sA_,s0_,s1_,i64_w,i32_w]
            rfl
           refine pure_ (i:=20) (N:=some 35) (v:=undef) (a':=?_) #[true,true,true,true,true,true,true,true,true,true,true,true,true,true,true,true,true,true,true,true,true,false,false,false,false,false,false,false,false,false,false,false,false,false,false] rfl rfl (any_of HT_.out (by kernel_rfl)) (fun _ _ _ h => h) (Or.inr ⟨by rfl,rfl⟩) ?_ ?_
           rotate_left
           ·simp only [Act.put,sA_,s0_,s1_,i64_w,i32_w]
            rfl
           refine pure_ (i:=21) (N:=some 36) (v:=?_) (a':=?_) #[true,true,true,true,true,true,true,true,true,true,true,true,true,true,true,true,true,true,true,true,true,true,false,false,false,false,false,false,false,false,false,false,false,false,false] rfl rfl (any_of HT_.out (by kernel_rfl)) (fun _ _ _ h => h) (Or.inl ⟨by rfl, ?_⟩) ?_ ?_
           rotate_left
           ·intro w'
            go_simp
            with_reducible rfl
           rotate_left
           ·simp only [Act.put,sA_,s0_,s1_,i64_w,i32_w]
            rfl
           refine pure_ (i:=22) (N:=some 37) (v:=?_) (a':=?_) #[true,true,true,true,true,true,true,true,true,true,true,true,true,true,true,true,true,true,true,true,true,true,true,false,false,false,false,false,false,false,false,false,false,false,false] rfl rfl (any_of HT_.out (by kernel_rfl)) (fun _ _ _ h => h) (Or.inl ⟨by rfl, ?_⟩) ?_ ?_
           rotate_left
           ·intro w'
            go_simp
            with_reducible rfl
           rotate_left
           ·simp only [Act.put,sA_,s0_,s1_,i64_w,i32_w]
            rfl
           refine pure_ (i:=23) (N:=some 38) (v:=?_) (a':=?_) #[true,true,true,true,true,true,true,true,true,true,true,true,true,true,true,true,true,true,true,true,true,true,true,true,false,false,false,false,false,false,false,false,false,false,false] rfl rfl (any_of HT_.out (by kernel_rfl)) (fun _ _ _ h => h) (Or.inl ⟨by rfl, ?_⟩) ?_ ?_
           rotate_left
           ·intro w'
            go_simp
            with_reducible rfl
           rotate_left
           ·simp only [Act.put,sA_,s0_,s1_,i64_w,i32_w]
            rfl
           refine pure_ (i:=24) (N:=some 39) (v:=?_) (a':=?_) #[true,true,true,true,true,true,true,true,true,true,true,true,true,true,true,true,true,true,true,true,true,true,true,true,true,false,false,false,false,false,false,false,false,false,false] rfl rfl (any_of HT_.out (by kernel_rfl)) (fun _ _ _ h => h) (Or.inl ⟨by rfl, ?_⟩) ?_ ?_
           rotate_left
           ·intro w'
            go_simp
            with_reducible rfl
           rotate_left
           ·simp only [Act.put,sA_,s0_,s1_,i64_w,i32_w]
            rfl
           refine take_ (i:=25) (N:=some 40) (v:=?_) (a':=?_) #[true,true,true,true,true,true,true,true,true,true,true,true,true,true,true,true,true,true,true,true,true,true,true,true,true,true,false,false,false,false,false,false,false,false,false] rfl rfl (take_ofW HT_.out HW_.out (by kernel_rfl)) (fun _ _ _ h => h) (Or.inl ⟨by rfl, ?_⟩) hHeld ?_ ?_
           rotate_left
           ·rintro w' ⟨s0,s1,s2,s3⟩
            go_simp
            with_reducible rfl
           rotate_left
           ·simp only [Act.put,sA_,s0_,s1_,i64_w,i32_w]
            rfl
           refine one_ (i:=26) (N:=some 41) #[true,true,true,true,true,true,true,true,true,true,true,true,true,true,true,true,true,true,true,true,true,true,true,true,true,true,true,false,false,false,false,false,false,false,false] rfl rfl (one_of HT_.out (by kernel_rfl)) (by decide) (fun K hK => ?_)
           refine goes_ Try.func51 (by kernel_rfl) rfl #[.string ((rd_T52 l0 x10_1).f1)] (by rfl) rfl rfl (by (try simp only [List.map_toArray,List.map_cons,List.map_nil]);rfl) ?_
           with_reducible refine (impl_IsValidId.calls k1 ((rd_T52 l0 x10_1).f1) false _ A27.out).mono ?_
           rintro e w' ⟨rfl,⟨nd,rfl⟩⟩
           refine ⟨_,rfl, ?_⟩
           refine hK.out _ _ ⟨(blk_cell BK277.out 0).trans rfl,(blk_cell BK277.out 1).trans rfl,(blk_cell BK277.out 2).trans rfl,(blk_cell BK277.out 3).trans rfl⟩ (fun hHeld => ?_)
           clear hK K
           refine norm_ (a':=?_) ?_ ?_
           rotate_left
           ·show Act.put _ (some 41) _ = _
            simp only [Act.put,sA_,s0_,s1_,i64_w,i32_w]
            rfl
           refine pure_ (i:=27) (N:=some 42) (v:=?_) (a':=?_) #[true,true,true,true,true,true,true,true,true,true,true,true,true,true,true,true,true,true,true,true,true,true,true,true,true,true,true,true,false,false,false,false,false,false,false] rfl rfl (any_of HT_.out (by kernel_rfl)) (fun _ _ _ h => h) (Or.inl ⟨by rfl, ?_⟩) ?_ ?_
           rotate_left
           ·intro w'
            go_simp
            with_reducible rfl
           rotate_left
           ·simp only [Act.put,sA_,s0_,s1_,i64_w,i32_w]
            rfl
           refine pure_ (i:=28) (N:=some 43) (v:=?_) (a':=?_) #[true,true,true,true,true,true,true,true,true,true,true,true,true,true,true,true,true,true,true,true,true,true,true,true,true,true,true,true,true,false,false,false,false,false,false] rfl rfl (any_of HT_.out (by kernel_rfl)) (fun _ _ _ h => h) (Or.inl ⟨by rfl, ?_⟩) ?_ ?_
           rotate_left
           ·intro w'
            go_simp
            with_reducible rfl
           rotate_left
           ·simp only [Act.put,sA_,s0_,s1_,i64_w,i32_w]
            rfl
           refine pure_ (i:=29) (N:=some 44) (v:=?_) (a':=?_) #[true,true,true,true,true,true,true,true,true,true,true,true,true,true,true,true,true,true,true,true,true,true,true,true,true,true,true,true,true,true,false,false,false,false,false] rfl rfl (any_of HT_.out (by kernel_rfl)) (fun _ _ _ h => h) (Or.inl ⟨by rfl, ?_⟩) ?_ ?_
           rotate_left
           ·intro w'
            go_simp
            with_reducible rfl
           rotate_left
           ·simp only [Act.put,sA_,s0_,s1_,i64_w,i32_w]
            rfl
           refine pure_ (i:=30) (N:=some 45) (v:=undef) (a':=?_) #[true,true,true,true,true,true,true,true,true,true,true,true,true,true,true,true,true,true,true,true,true,true,true,true,true,true,true,true,true,true,true,false,false,false,false] rfl rfl (any_of HT_.out (by kernel_rfl)) (fun _ _ _ h => h) (Or.inr ⟨by rfl,rfl⟩) ?_ ?_
           rotate_left
           ·simp only [Act.put,sA_,s0_,s1_,i64_w,i32_w]
            rfl
           refine pure_ (i:=31) (N:=some 46) (v:=undef) (a':=?_) #[true,true,true,true,true,true,true,true,true,true,true,true,true,true,true,true,true,true,true,true,true,true,true,true,true,true,true,true,true,true,true,true,false,false,false] rfl rfl (any_of HT_.out (by kernel_rfl)) (fun _ _ _ h => h) (Or.inr ⟨by rfl,rfl⟩) ?_ ?_
           rotate_left
           ·simp only [Act.put,sA_,s0_,s1_,i64_w,i32_w]
            rfl
           refine pure_ (i:=32) (N:=some 47) (v:=undef) (a':=?_) #[true,true,true,true,true,true,true,true,true,true,true,true,true,true,true,true,true,true,true,true,true,true,true,true,true,true,true,true,true,true,true,true,true,false,false] rfl rfl (any_of HT_.out (by kernel_rfl)) (fun _ _ _ h => h) (Or.inr ⟨by rfl,rfl⟩) ?_ ?_
           rotate_left
           ·simp only [Act.put,sA_,s0_,s1_,i64_w,i32_w]
            rfl
           refine pure_ (i:=33) (N:=some 48) (v:=undef) (a':=?_) #[true,true,true,true,true,true,true,true,true,true,true,true,true,true,true,true,true,true,true,true,true,true,true,true,true,true,true,true,true,true,true,true,true,true,false] rfl rfl (any_of HT_.out (by kernel_rfl)) (fun _ _ _ h => h) (Or.inr ⟨by rfl,rfl⟩) ?_ ?_
           rotate_left
           ·simp only [Act.put,sA_,s0_,s1_,i64_w,i32_w]
            rfl
           refine pure_ (i:=34) (N:=some 49) (v:=?_) (a':=?_) #[true,true,true,true,true,true,true,true,true,true,true,true,true,true,true,true,true,true,true,true,true,true,true,true,true,true,true,true,true,true,true,true,true,true,true] rfl rfl (any_of HT_.out (by kernel_rfl)) (fun _ _ _ h => h) (Or.inl ⟨by rfl, ?_⟩) ?_ ?_
           rotate_left
           ·intro w'
            go_simp
            with_reducible rfl
           rotate_left
           ·simp only [Act.put,sA_,s0_,s1_,i64_w,i32_w]
            rfl
           refine done_ (done_of HT_.out (by kernel_rfl)) ?_
           try go_wp2
           go_meet
           case rel => exact ⟨_,(true),(by rfl),H',⟨by have:=HK1.out;omega⟩,⟨by (with_reducible repeat (refine blk_drewN ?_ _));exact BK277.out⟩,⟨by repeat ((with_reducible first | exact HB.out | apply pw_below_drewN))⟩⟩
        ·replace c12:=Bool.eq_false_iff.mpr c12
         subst c12
         have H1 : (impl_conflictIn.j1 k1 l0 x3_1 x10_1 l0 (l0.length : Int) x10_1 true ((rd_T52 l0 x10_1).f0) ((rd_T52 l0 x10_1).f1) ((rd_T52 l0 x10_1).f2) ((rd_T52 l0 x10_1).f3)) = some r:=by rw [if_neg (show ¬ (false = true) by decide)] at H;exact H
         clear H
         have H:=H1
         clear H1
         have H':=Aside0.mk H
         clear H
         try go_wp2
         have n0_ : Aside0 (((((w6.setCell ⟨gb277,0,none⟩ (.int .i64 ((rd_T52 l0 x10_1).f0))).setCell ⟨gb277,1,none⟩ (.string ((rd_T52 l0 x10_1).f1))).setCell ⟨gb277,2,none⟩ (.bool ((rd_T52 l0 x10_1).f2))).setCell ⟨gb277,3,none⟩ (.int .i64 ((rd_T52 l0 x10_1).f3))).heap[gb277]? = some (.cells #[.int .i64 ((rd_T52 l0 x10_1).f0), .string ((rd_T52 l0 x10_1).f1), .bool ((rd_T52 l0 x10_1).f2), .int .i64 ((rd_T52 l0 x10_1).f3)] 52 (0,0))):=⟨by refine blk_put (cs:=#[.int .i64 ((rd_T52 l0 x10_1).f0), .string ((rd_T52 l0 x10_1).f1), .bool ((rd_T52 l0 x10_1).f2), .int .i64 0]) ?_ 3 _ rfl;refine blk_put (cs:=#[.int .i64 ((rd_T52 l0 x10_1).f0), .string ((rd_T52 l0 x10_1).f1), .bool false, .int .i64 0]) ?_ 2 _ rfl;refine blk_put (cs:=#[.int .i64 ((rd_T52 l0 x10_1).f0), .string (⟨#[]⟩ : ByteArray), .bool false, .int .i64 0]) ?_ 1 _ rfl;refine blk_put (cs:=#[.int .i64 0, .string (⟨#[]⟩ : ByteArray), .bool false, .int .i64 0]) ?_ 0 _ rfl;exact BK277.out⟩
         have n1_ : Aside0 (Below wr.heap.size wr ((((w6.setCell ⟨gb277,0,none⟩ (.int .i64 ((rd_T52 l0 x10_1).f0))).setCell ⟨gb277,1,none⟩ (.string ((rd_T52 l0 x10_1).f1))).setCell ⟨gb277,2,none⟩ (.bool ((rd_T52 l0 x10_1).f2))).setCell ⟨gb277,3,none⟩ (.int .i64 ((rd_T52 l0 x10_1).f3)))):=⟨by repeat ((with_reducible first | exact HB.out | refine below_set ?_ GE277.out))⟩
         (try clear BK277)
         (try clear HB)
         generalize ((((w6.setCell ⟨gb277,0,none⟩ (.int .i64 ((rd_T52 l0 x10_1).f0))).setCell ⟨gb277,1,none⟩ (.string ((rd_T52 l0 x10_1).f1))).setCell ⟨gb277,2,none⟩ (.bool ((rd_T52 l0 x10_1).f2))).setCell ⟨gb277,3,none⟩ (.int .i64 ((rd_T52 l0 x10_1).f3))) = w34 at n0_ n1_ ⊢
         have BK277:=n0_
         have HB:=n1_
         clear n0_ n1_
         have n0_:=Aside0.mk (blk_drew BK277.out)
         have n1_:=Aside0.mk (below_drew1 HB.out)
         clear BK277
         clear HB
         have BK277:=n0_
         have HB:=n1_
         clear n0_ n1_
         refine start_ (n:=35) (S:=fun w' => w'.cell? ⟨gb277,0,none⟩ = some (.int .i64 ((rd_T52 l0 x10_1).f0)) ∧ w'.cell? ⟨gb277,1,none⟩ = some (.string ((rd_T52 l0 x10_1).f1)) ∧ w'.cell? ⟨gb277,2,none⟩ = some (.bool ((rd_T52 l0 x10_1).f2)) ∧ w'.cell? ⟨gb277,3,none⟩ = some (.int .i64 ((rd_T52 l0 x10_1).f3))) (ds := []) #[false,false,false,false,false,false,false,false,false,false,false,false,false,false,false,false,false,false,false,false,false,false,false,false,false,false,false,false,false,false,false,false,false,false,false] (by kernel_rfl) rfl rfl ⟨(blk_cell BK277.out 0).trans rfl,(blk_cell BK277.out 1).trans rfl,(blk_cell BK277.out 2).trans rfl,(blk_cell BK277.out 3).trans rfl⟩ (fun hHeld => ?_);refine with_tabW impl_conflictIn.tab5 impl_conflictIn.bits5 (fun HT_ HW_ => ?_)
         generalize w34.drew = w35 at BK277 HB hHeld ⊢
         refine pure_ (i:=0) (N:=some 15) (v:=?_) (a':=?_) #[true,false,false,false,false,false,false,false,false,false,false,false,false,false,false,false,false,false,false,false,false,false,false,false,false,false,false,false,false,false,false,false,false,false,false] rfl rfl (any_of HT_.out (by kernel_rfl)) (fun _ _ _ h => h) (Or.inl ⟨by rfl, ?_⟩) ?_ ?_
         rotate_left
         ·intro w'
          go_simp
          with_reducible rfl
         rotate_left
         ·simp only [Act.put,sA_,s0_,s1_,i64_w,i32_w]
          rfl
         refine pure_ (i:=1) (N:=some 16) (v:=?_) (a':=?_) #[true,true,false,false,false,false,false,false,false,false,false,false,false,false,false,false,false,false,false,false,false,false,false,false,false,false,false,false,false,false,false,false,false,false,false] rfl rfl (any_of HT_.out (by kernel_rfl)) (fun _ _ _ h => h) (Or.inl ⟨by rfl, ?_⟩) ?_ ?_
         rotate_left
         ·intro w'
          go_simp
          with_reducible rfl
         rotate_left
         ·simp only [Act.put,sA_,s0_,s1_,i64_w,i32_w]
          rfl
         refine pure_ (i:=2) (N:=some 17) (v:=?_) (a':=?_) #[true,true,true,false,false,false,false,false,false,false,false,false,false,false,false,false,false,false,false,false,false,false,false,false,false,false,false,false,false,false,false,false,false,false,false] rfl rfl (any_of HT_.out (by kernel_rfl)) (fun _ _ _ h => h) (Or.inl ⟨by rfl, ?_⟩) ?_ ?_
         rotate_left
         ·intro w'
          go_simp
          with_reducible rfl
         rotate_left
         ·simp only [Act.put,sA_,s0_,s1_,i64_w,i32_w]
          rfl
         refine pure_ (i:=3) (N:=some 18) (v:=?_) (a':=?_) #[true,true,true,true,false,false,false,false,false,false,false,false,false,false,false,false,false,false,false,false,false,false,false,false,false,false,false,false,false,false,false,false,false,false,false] rfl rfl (any_of HT_.out (by kernel_rfl)) (fun _ _ _ h => h) (Or.inl ⟨by rfl, ?_⟩) ?_ ?_
         rotate_left
         ·intro w'
          go_simp
          with_reducible rfl
         rotate_left
         ·simp only [Act.put,sA_,s0_,s1_,i64_w,i32_w]
          rfl
         refine take_ (i:=4) (N:=some 19) (v:=?_) (a':=?_) #[true,true,true,true,true,false,false,false,false,false,false,false,false,false,false,false,false,false,false,false,false,false,false,false,false,false,false,false,false,false,false,false,false,false,false] rfl rfl (take_ofW HT_.out HW_.out (by kernel_rfl)) (fun _ _ _ h => h) (Or.inl ⟨by rfl, ?_⟩) hHeld ?_ ?_
         rotate_left
         ·rintro w' ⟨s0,s1,s2,s3⟩
          go_simp
          with_reducible rfl
         rotate_left
         ·simp only [Act.put,sA_,s0_,s1_,i64_w,i32_w]
          rfl
         refine one_ (i:=5) (N:=some 20) #[true,true,true,true,true,true,false,false,false,false,false,false,false,false,false,false,false,false,false,false,false,false,false,false,false,false,false,false,false,false,false,false,false,false,false] rfl rfl (one_of HT_.out (by kernel_rfl)) (by decide) (fun K hK => ?_)
         refine goes_ Try.func39 (by kernel_rfl) rfl #[.int .i64 ((rd_T52 l0 x10_1).f0), .int .i64 0, .int .i64 240] (by rfl) rfl rfl (by (try simp only [List.map_toArray,List.map_cons,List.map_nil]);rfl) ?_
         with_reducible refine (impl_within.calls ((rd_T52 l0 x10_1).f0) 0 240 false _ A11.out).mono ?_
         rintro e w' ⟨rfl,⟨nd,rfl⟩⟩
         refine ⟨_,rfl, ?_⟩
         refine hK.out _ _ ⟨(blk_cell BK277.out 0).trans rfl,(blk_cell BK277.out 1).trans rfl,(blk_cell BK277.out 2).trans rfl,(blk_cell BK277.out 3).trans rfl⟩ (fun hHeld => ?_)
         clear hK K
         refine norm_ (a':=?_) ?_ ?_
         rotate_left
         ·show Act.put _ (some 20) _ = _
          simp only [Act.put,sA_,s0_,s1_,i64_w,i32_w]
          rfl
         refine pure_ (i:=6) (N:=some 21) (v:=?_) (a':=?_) #[true,true,true,true,true,true,true,false,false,false,false,false,false,false,false,false,false,false,false,false,false,false,false,false,false,false,false,false,false,false,false,false,false,false,false] rfl rfl (any_of HT_.out (by kernel_rfl)) (fun _ _ _ h => h) (Or.inl ⟨by rfl, ?_⟩) ?_ ?_
         rotate_left
         ·intro w'
          go_simp
          with_reducible rfl
         rotate_left
         ·simp only [Act.put,sA_,s0_,s1_,i64_w,i32_w]
          rfl
         refine pure_ (i:=7) (N:=some 22) (v:=?_) (a':=?_) #[true,true,true,true,true,true,true,true,false,false,false,false,false,false,false,false,false,false,false,false,false,false,false,false,false,false,false,false,false,false,false,false,false,false,false] rfl rfl (any_of HT_.out (by kernel_rfl)) (fun _ _ _ h => h) (Or.inl ⟨by rfl, ?_⟩) ?_ ?_
         rotate_left
         ·intro w'
          go_simp
          with_reducible rfl
         rotate_left
         ·simp only [Act.put,sA_,s0_,s1_,i64_w,i32_w]
          rfl
         refine pure_ (i:=8) (N:=some 23) (v:=?_) (a':=?_) #[true,true,true,true,true,true,true,true,true,false,false,false,false,false,false,false,false,false,false,false,false,false,false,false,false,false,false,false,false,false,false,false,false,false,false] rfl rfl (any_of HT_.out (by kernel_rfl)) (fun _ _ _ h => h) (Or.inl ⟨by rfl, ?_⟩) ?_ ?_
         rotate_left
         ·intro w'
          go_simp
          with_reducible rfl
         rotate_left
         ·simp only [Act.put,sA_,s0_,s1_,i64_w,i32_w]
          rfl
         refine pure_ (i:=9) (N:=some 24) (v:=undef) (a':=?_) #[true,true,true,true,true,true,true,true,true,true,false,false,false,false,false,false,false,false,false,false,false,false,false,false,false,false,false,false,false,false,false,false,false,false,false] rfl rfl (any_of HT_.out (by kernel_rfl)) (fun _ _ _ h => h) (Or.inr ⟨by rfl,rfl⟩) ?_ ?_
         rotate_left
         ·simp only [Act.put,sA_,s0_,s1_,i64_w,i32_w]
          rfl
         refine pure_ (i:=10) (N:=some 25) (v:=undef) (a':=?_) #[true,true,true,true,true,true,true,true,true,true,true,false,false,false,false,false,false,false,false,false,false,false,false,false,false,false,false,false,false,false,false,false,false,false,false] rfl rfl (any_of HT_.out (by kernel_rfl)) (fun _ _ _ h => h) (Or.inr ⟨by rfl,rfl⟩) ?_ ?_
         rotate_left
         ·simp only [Act.put,sA_,s0_,s1_,i64_w,i32_w]
          rfl
         refine pure_ (i:=11) (N:=some 26) (v:=undef) (a':=?_) #[true,true,true,true,true,true,true,true,true,true,true,true,false,false,false,false,false,false,false,false,false,false,false,false,false,false,false,false,false,false,false,false,false,false,false] rfl rfl (any_of HT_.out (by kernel_rfl)) (fun _ _ _ h => h) (Or.inr ⟨by rfl,rfl⟩) ?_ ?_
         rotate_left
         ·simp only [Act.put,sA_,s0_,s1_,i64_w,i32_w]
          rfl
         refine pure_ (i:=12) (N:=some 27) (v:=undef) (a':=?_) #[true,true,true,true,true,true,true,true,true,true,true,true,true,false,false,false,false,false,false,false,false,false,false,false,false,false,false,false,false,false,false,false,false,false,false] rfl rfl (any_of HT_.out (by kernel_rfl)) (fun _ _ _ h => h) (Or.inr ⟨by rfl,rfl⟩) ?_ ?_
         rotate_left
         ·simp only [Act.put,sA_,s0_,s1_,i64_w,i32_w]
          rfl
         refine pure_ (i:=13) (N:=some 28) (v:=undef) (a':=?_) #[true,true,true,true,true,true,true,true,true,true,true,true,true,true,false,false,false,false,false,false,false,false,false,false,false,false,false,false,false,false,false,false,false,false,false] rfl rfl (any_of HT_.out (by kernel_rfl)) (fun _ _ _ h => h) (Or.inr ⟨by rfl,rfl⟩) ?_ ?_
         rotate_left
         ·simp only [Act.put,sA_,s0_,s1_,i64_w,i32_w]
          rfl
         refine pure_ (i:=14) (N:=some 29) (v:=undef) (a':=?_) #[true,true,true,true,true,true,true,true,true,true,true,true,true,true,true,false,false,false,false,false,false,false,false,false,false,false,false,false,false,false,false,false,false,false,false] rfl rfl (any_of HT_.out (by kernel_rfl)) (fun _ _ _ h => h) (Or.inr ⟨by rfl,rfl⟩) ?_ ?_
         rotate_left
         ·simp only [Act.put,sA_,s0_,s1_,i64_w,i32_w]
          rfl
         refine pure_ (i:=15) (N:=some 30) (v:=undef) (a':=?_) #[true,true,true,true,true,true,true,true,true,true,true,true,true,true,true,true,false,false,false,false,false,false,false,false,false,false,false,false,false,false,false,false,false,false,false] rfl rfl (any_of HT_.out (by kernel_rfl)) (fun _ _ _ h => h) (Or.inr ⟨by rfl,rfl⟩) ?_ ?_
         rotate_left
         ·simp only [Act.put,sA_,s0_,s1_,i64_w,i32_w]
          rfl
         refine pure_ (i:=16) (N:=some 31) (v:=undef) (a':=?_) #[true,true,true,true,true,true,true,true,true,true,true,true,true,true,true,true,true,false,false,false,false,false,false,false,false,false,false,false,false,false,false,false,false,false,false] rfl rfl (any_of HT_.out (by kernel_rfl)) (fun _ _ _ h => h) (Or.inr ⟨by rfl,rfl⟩) ?_ ?_
         rotate_left
         ·simp only [Act.put,sA_,s0_,s1_,i64_w,i32_w]
          rfl
         refine pure_ (i:=17) (N:=some 32) (v:=undef) (a':=?_) #[true,true,true,true,true,true,true,true,true,true,true,true,true,true,true,true,true,true,false,false,false,false,false,false,false,false,false,false,false,false,false,false,false,false,false] rfl rfl (any_of HT_.out (by kernel_rfl)) (fun _ _ _ h => h) (Or.inr ⟨by rfl,rfl⟩) ?_ ?_
         rotate_left
         ·simp only [Act.put,sA_,s0_,s1_,i64_w,i32_w]
          rfl
         refine pure_ (i:=18) (N:=some 33) (v:=undef) (a':=?_) #[true,true,true,true,true,true,true,true,true,true,true,true,true,true,true,true,true,true,true,false,false,false,false,false,false,false,false,false,false,false,false,false,false,false,false] rfl rfl (any_of HT_.out (by kernel_rfl)) (fun _ _ _ h => h) (Or.inr ⟨by rfl,rfl⟩) ?_ ?_
         rotate_left
         ·simp only [Act.put,sA_,s0_,s1_,i64_w,i32_w]
          rfl
         refine pure_ (i:=19) (N:=some 34) (v:=undef) (a':=?_) #[true,true,true,true,true,true,true,true,true,true,true,true,true,true,true,true,true,true,true,true,false,false,false,false,false,false,false,false,false,false,false,false,false,false,false] rfl rfl (any_of HT_.out (by kernel_rfl)) (fun _ _ _ h => h) (Or.inr ⟨by rfl,rfl⟩) ?_ ?_
         rotate_left
         ·simp only [Act.put,sA_,s0_,s1_,i64_w,i32_w]
          rfl
         refine pure_ (i:=20) (N:=some 35) (v:=undef) (a':=?_) #[true,true,true,true,true,true,true,true,true,true,true,true,true,true,true,true,true,true,true,true,true,false,false,false,false,false,false,false,false,false,false,false,false,false,false] rfl rfl (any_of HT_.out (by kernel_rfl)) (fun _ _ _ h => h) (Or.inr ⟨by rfl,rfl⟩) ?_ ?_
         rotate_left
         ·simp only [Act.put,sA_,s0_,s1_,i64_w,i32_w]
          rfl
         refine pure_ (i:=21) (N:=some 36) (v:=undef) (a':=?_) #[true,true,true,true,true,true,true,true,true,true,true,true,true,true,true,true,true,true,true,true,true,true,false,false,false,false,false,false,false,false,false,false,false,false,false] rfl rfl (any_of HT_.out (by kernel_rfl)) (fun _ _ _ h => h) (Or.inr ⟨by rfl,rfl⟩) ?_ ?_
         rotate_left
         ·simp only [Act.put,sA_,s0_,s1_,i64_w,i32_w]
          rfl
         refine pure_ (i:=22) (N:=some 37) (v:=?_) (a':=?_) #[true,true,true,true,true,true,true,true,true,true,true,true,true,true,true,true,true,true,true,true,true,true,true,false,false,false,false,false,false,false,false,false,false,false,false] rfl rfl (any_of HT_.out (by kernel_rfl)) (fun _ _ _ h => h) (Or.inl ⟨by rfl, ?_⟩) ?_ ?_
         rotate_left
         ·intro w'
          go_simp
          with_reducible rfl
         rotate_left
         ·simp only [Act.put,sA_,s0_,s1_,i64_w,i32_w]
          rfl
         refine pure_ (i:=23) (N:=some 38) (v:=?_) (a':=?_) #[true,true,true,true,true,true,true,true,true,true,true,true,true,true,true,true,true,true,true,true,true,true,true,true,false,false,false,false,false,false,false,false,false,false,false] rfl rfl (any_of HT_.out (by kernel_rfl)) (fun _ _ _ h => h) (Or.inl ⟨by rfl, ?_⟩) ?_ ?_
         rotate_left
         ·intro w'
          go_simp
          with_reducible rfl
         rotate_left
         ·simp only [Act.put,sA_,s0_,s1_,i64_w,i32_w]
          rfl
         refine pure_ (i:=24) (N:=some 39) (v:=undef) (a':=?_) #[true,true,true,true,true,true,true,true,true,true,true,true,true,true,true,true,true,true,true,true,true,true,true,true,true,false,false,false,false,false,false,false,false,false,false] rfl rfl (any_of HT_.out (by kernel_rfl)) (fun _ _ _ h => h) (Or.inr ⟨by rfl,rfl⟩) ?_ ?_
         rotate_left
         ·simp only [Act.put,sA_,s0_,s1_,i64_w,i32_w]
          rfl
         refine pure_ (i:=25) (N:=some 40) (v:=undef) (a':=?_) #[true,true,true,true,true,true,true,true,true,true,true,true,true,true,true,true,true,true,true,true,true,true,true,true,true,true,false,false,false,false,false,false,false,false,false] rfl rfl (any_of HT_.out (by kernel_rfl)) (fun _ _ _ h => h) (Or.inr ⟨by rfl,rfl⟩) ?_ ?_
         rotate_left
         ·simp only [Act.put,sA_,s0_,s1_,i64_w,i32_w]
          rfl
         refine pure_ (i:=26) (N:=some 41) (v:=undef) (a':=?_) #[true,true,true,true,true,true,true,true,true,true,true,true,true,true,true,true,true,true,true,true,true,true,true,true,true,true,true,false,false,false,false,false,false,false,false] rfl rfl (any_of HT_.out (by kernel_rfl)) (fun _ _ _ h => h) (Or.inr ⟨by rfl,rfl⟩) ?_ ?_
         rotate_left
         ·simp only [Act.put,sA_,s0_,s1_,i64_w,i32_w]
          rfl
         refine pure_ (i:=27) (N:=some 42) (v:=undef) (a':=?_) #[true,true,true,true,true,true,true,true,true,true,true,true,true,true,true,true,true,true,true,true,true,true,true,true,true,true,true,true,false,false,false,false,false,false,false] rfl rfl (any_of HT_.out (by kernel_rfl)) (fun _ _ _ h => h) (Or.inr ⟨by rfl,rfl⟩) ?_ ?_
         rotate_left
         ·simp only [Act.put,sA_,s0_,s1_,i64_w,i32_w]
          rfl
         refine pure_ (i:=28) (N:=some 43) (v:=?_) (a':=?_) #[true,true,true,true,true,true,true,true,true,true,true,true,true,true,true,true,true,true,true,true,true,true,true,true,true,true,true,true,true,false,false,false,false,false,false] rfl rfl (any_of HT_.out (by kernel_rfl)) (fun _ _ _ h => h) (Or.inl ⟨by rfl, ?_⟩) ?_ ?_
         rotate_left
         ·intro w'
          go_simp
          with_reducible rfl
         rotate_left
         ·simp only [Act.put,sA_,s0_,s1_,i64_w,i32_w]
          rfl
         refine pure_ (i:=29) (N:=some 44) (v:=?_) (a':=?_) #[true,true,true,true,true,true,true,true,true,true,true,true,true,true,true,true,true,true,true,true,true,true,true,true,true,true,true,true,true,true,false,false,false,false,false] rfl rfl (any_of HT_.out (by kernel_rfl)) (fun _ _ _ h => h) (Or.inl ⟨by rfl, ?_⟩) ?_ ?_
         rotate_left
         ·intro w'
          go_simp
          with_reducible rfl
         rotate_left
         ·simp only [Act.put,sA_,s0_,s1_,i64_w,i32_w]
          rfl
         refine pure_ (i:=30) (N:=some 45) (v:=undef) (a':=?_) #[true,true,true,true,true,true,true,true,true,true,true,true,true,true,true,true,true,true,true,true,true,true,true,true,true,true,true,true,true,true,true,false,false,false,false] rfl rfl (any_of HT_.out (by kernel_rfl)) (fun _ _ _ h => h) (Or.inr ⟨by rfl,rfl⟩) ?_ ?_
         rotate_left
         ·simp only [Act.put,sA_,s0_,s1_,i64_w,i32_w]
          rfl
         refine pure_ (i:=31) (N:=some 46) (v:=undef) (a':=?_) #[true,true,true,true,true,true,true,true,true,true,true,true,true,true,true,true,true,true,true,true,true,true,true,true,true,true,true,true,true,true,true,true,false,false,false] rfl rfl (any_of HT_.out (by kernel_rfl)) (fun _ _ _ h => h) (Or.inr ⟨by rfl,rfl⟩) ?_ ?_
         rotate_left
         ·simp only [Act.put,sA_,s0_,s1_,i64_w,i32_w]
          rfl
         refine pure_ (i:=32) (N:=some 47) (v:=undef) (a':=?_) #[true,true,true,true,true,true,true,true,true,true,true,true,true,true,true,true,true,true,true,true,true,true,true,true,true,true,true,true,true,true,true,true,true,false,false] rfl rfl (any_of HT_.out (by kernel_rfl)) (fun _ _ _ h => h) (Or.inr ⟨by rfl,rfl⟩) ?_ ?_
         rotate_left
         ·simp only [Act.put,sA_,s0_,s1_,i64_w,i32_w]
          rfl
         refine pure_ (i:=33) (N:=some 48) (v:=undef) (a':=?_) #[true,true,true,true,true,true,true,true,true,true,true,true,true,true,true,true,true,true,true,true,true,true,true,true,true,true,true,true,true,true,true,true,true,true,false] rfl rfl (any_of HT_.out (by kernel_rfl)) (fun _ _ _ h => h) (Or.inr ⟨by rfl,rfl⟩) ?_ ?_
         rotate_left
         ·simp only [Act.put,sA_,s0_,s1_,i64_w,i32_w]
          rfl
         refine pure_ (i:=34) (N:=some 49) (v:=?_) (a':=?_) #[true,true,true,true,true,true,true,true,true,true,true,true,true,true,true,true,true,true,true,true,true,true,true,true,true,true,true,true,true,true,true,true,true,true,true] rfl rfl (any_of HT_.out (by kernel_rfl)) (fun _ _ _ h => h) (Or.inl ⟨by rfl, ?_⟩) ?_ ?_
         rotate_left
         ·intro w'
          go_simp
          with_reducible rfl
         rotate_left
         ·simp only [Act.put,sA_,s0_,s1_,i64_w,i32_w]
          rfl
         refine done_ (done_of HT_.out (by kernel_rfl)) ?_
         try go_wp2
         go_meet
         case rel => exact ⟨_,(true),(by rfl),H',⟨by have:=HK1.out;omega⟩,⟨by (with_reducible repeat (refine blk_drewN ?_ _));exact BK277.out⟩,⟨by repeat ((with_reducible first | exact HB.out | apply pw_below_drewN))⟩⟩
      case rest =>
       have HX0:=Aside0.mk (of_decide_eq_true c3b0)
       have HX1:=Aside0.mk (of_decide_eq_true c2b0)
       clear HC5
       try clear c1
       try clear c2
       try clear p2
       try clear c3
       try clear c5
       try clear c12
       try clear c28
       obtain ⟨kq,x49_4,rfl,HA,HJ4,BK277,HB⟩ := hcut
       cases kq with
       | zero => exact absurd HA.out (by simp [impl_conflictIn.j1])
       | succ kj4 =>
        have H:=HA.out
        clear HA
        simp only [impl_conflictIn.j1] at H
        by_cases c36 : x49_4 = true
        ·subst c36
         have H1 : (some x10_1) = some r:=by rw [if_pos rfl] at H;exact H
         clear H
         have H:=H1
         clear H1
         obtain rfl:=Option.some.inj H
         go_wp2
         go_ret
         exact ⟨by rfl,below_step HBw.out (by exact HB.out)⟩
        ·replace c36:=Bool.eq_false_iff.mpr c36
         subst c36
         have H1 : ((mlook.f x3_1 ((rd_T52 l0 x10_1).f1)).bind fun t284 => (if ((rd_T52 l0 x10_1).f2) = true then (if (Go.bits .and .i64 t284 ((rd_T52 l0 x10_1).f3)) = 0 then ((mput.f x3_1 ((rd_T52 l0 x10_1).f1) (Go.bits .or .i64 t284 ((rd_T52 l0 x10_1).f3))).bind fun t285 => (impl_conflictIn.l0 kj4 l0 t285 l0 (l0.length : Int) (wrap64 (x10_1 + 1)))) else (some x10_1)) else (if (Go.bits .and .i64 t284 ((rd_T52 l0 x10_1).f3)) = ((rd_T52 l0 x10_1).f3) then ((mput.f x3_1 ((rd_T52 l0 x10_1).f1) (Go.bits .andNot .i64 t284 ((rd_T52 l0 x10_1).f3))).bind fun t286 => (impl_conflictIn.l0 kj4 l0 t286 l0 (l0.length : Int) (wrap64 (x10_1 + 1)))) else (some x10_1)))) = some r:=by rw [if_neg (show ¬ (false = true) by decide)] at H;exact H
         clear H
         have H:=H1
         clear H1
         replace H:=Option.bind_eq_some_iff.mp H
         obtain ⟨t284,A370,H⟩ := H
         replace H : (if ((rd_T52 l0 x10_1).f2) = true then (if (Go.bits .and .i64 t284 ((rd_T52 l0 x10_1).f3)) = 0 then ((mput.f x3_1 ((rd_T52 l0 x10_1).f1) (Go.bits .or .i64 t284 ((rd_T52 l0 x10_1).f3))).bind fun t285 => (impl_conflictIn.l0 kj4 l0 t285 l0 (l0.length : Int) (wrap64 (x10_1 + 1)))) else (some x10_1)) else (if (Go.bits .and .i64 t284 ((rd_T52 l0 x10_1).f3)) = ((rd_T52 l0 x10_1).f3) then ((mput.f x3_1 ((rd_T52 l0 x10_1).f1) (Go.bits .andNot .i64 t284 ((rd_T52 l0 x10_1).f3))).bind fun t286 => (impl_conflictIn.l0 kj4 l0 t286 l0 (l0.length : Int) (wrap64 (x10_1 + 1)))) else (some x10_1))) = some r:=H
         have A37:=Aside0.mk A370
         clear A370
         by_cases c38 : ((rd_T52 l0 x10_1).f2) = true
         ·rw [if_pos c38] at H
          have c38b0 : ((rd_T52 l0 x10_1).f2) = true:=c38
          clear c38
          by_cases c39 : (Go.bits .and .i64 t284 ((rd_T52 l0 x10_1).f3)) = 0
          ·rw [if_pos c39] at H
           have c39b0 : ((Go.bits .and .i64 t284 ((rd_T52 l0 x10_1).f3)) == 0) = true:=beq_iff_eq.mpr c39
           have c39b1 : ((Go.bits .and .i64 t284 ((rd_T52 l0 x10_1).f3)) != 0) = false:=bne_eq_false_iff_eq.mpr c39
           clear c39
           replace H:=Option.bind_eq_some_iff.mp H
           obtain ⟨t285,A400,H⟩ := H
           replace H : (impl_conflictIn.l0 kj4 l0 t285 l0 (l0.length : Int) (wrap64 (x10_1 + 1))) = some r:=H
           have A40:=Aside0.mk A400
           clear A400
           have H':=Aside0.mk H
           clear H
           have hcz41_0 : wc.cell? ⟨gb277,0,none⟩ = some (.int .i64 ((rd_T52 l0 x10_1).f0)):=(blk_cell BK277.out 0).trans rfl
           have hcz41_1 : wc.cell? ⟨gb277,1,none⟩ = some (.string ((rd_T52 l0 x10_1).f1)):=(blk_cell BK277.out 1).trans rfl
           have hcz41_2 : wc.cell? ⟨gb277,2,none⟩ = some (.bool ((rd_T52 l0 x10_1).f2)):=(blk_cell BK277.out 2).trans rfl
           have hcz41_3 : wc.cell? ⟨gb277,3,none⟩ = some (.int .i64 ((rd_T52 l0 x10_1).f3)):=(blk_cell BK277.out 3).trans rfl
           have hfz41_0:=blk_frozen BK277.out 0
           have hfz41_1:=blk_frozen BK277.out 1
           have hfz41_2:=blk_frozen BK277.out 2
           have hfz41_3:=blk_frozen BK277.out 3
           go_wp2_with (first | (at_lookup;refine mapStr_look (some 54) rfl rfl (.tmp 51) (.tmp 53) 77 9 3 rfl Try.underlying77 Try.underlying9 Try.underlying3 (fun _ => by kernel_rfl) (MapStr_below HM.out (by exact HB.out)) rfl ((rd_T52 l0 x10_1).f1) rfl t284 (mlook.of A37.out) ?_) | (at_mapUpdate;refine mapStr_put none rfl rfl (.tmp 63) (.tmp 65) (.tmp 69) 77 9 3 rfl Try.underlying77 Try.underlying9 Try.underlying3 (MapStr_below HM.out (by exact HB.out)) (by have h0_:=HX0.out;have h1_:=HX1.out;have h2_:=HLen.out;omega) rfl ((rd_T52 l0 x10_1).f1) rfl (Go.bits .or .i64 t284 ((rd_T52 l0 x10_1).f3)) rfl (mput.of A40.out) ?_;intro wu hMu hGu;have HMn:=Aside0.mk hMu;have HBn:=Aside0.mk (Below.grown (below_step HBw.out (by exact HB.out)) hGu (Below.size (below_step HBw.out (by exact HB.out))) (fun j hj => by cases hj;exact Nat.le_refl _));clear hMu hGu))
           go_roundg kj4
           case measure => have:=HK1.out;have:=HJ4.out;omega
           case rel => exact ⟨(t285),(wrap64 (x10_1 + 1)),(by rfl),H',⟨by have:=HK1.out;have:=HJ4.out;omega⟩,HBn,⟨MapStr_mono HMn.out (by have h0_:=HX0.out;have h1_:=HX1.out;have h2_:=HLen.out;unfold wrap64;omega)⟩⟩
          ·rw [if_neg c39] at H
           have c39b0 : ((Go.bits .and .i64 t284 ((rd_T52 l0 x10_1).f3)) == 0) = false:=beq_eq_false_iff_ne.mpr c39
           have c39b1 : ((Go.bits .and .i64 t284 ((rd_T52 l0 x10_1).f3)) != 0) = true:=bne_iff_ne.mpr c39
           obtain rfl:=Option.some.inj H
           have hcz42_0 : wc.cell? ⟨gb277,0,none⟩ = some (.int .i64 ((rd_T52 l0 x10_1).f0)):=(blk_cell BK277.out 0).trans rfl
           have hcz42_1 : wc.cell? ⟨gb277,1,none⟩ = some (.string ((rd_T52 l0 x10_1).f1)):=(blk_cell BK277.out 1).trans rfl
           have hcz42_2 : wc.cell? ⟨gb277,2,none⟩ = some (.bool ((rd_T52 l0 x10_1).f2)):=(blk_cell BK277.out 2).trans rfl
           have hcz42_3 : wc.cell? ⟨gb277,3,none⟩ = some (.int .i64 ((rd_T52 l0 x10_1).f3)):=(blk_cell BK277.out 3).trans rfl
           have hfz42_0:=blk_frozen BK277.out 0
           have hfz42_1:=blk_frozen BK277.out 1
           have hfz42_2:=blk_frozen BK277.out 2
           have hfz42_3:=blk_frozen BK277.out 3
           go_wp2_with ((at_lookup;refine mapStr_look (some 54) rfl rfl (.tmp 51) (.tmp 53) 77 9 3 rfl Try.underlying77 Try.underlying9 Try.underlying3 (fun _ => by kernel_rfl) (MapStr_below HM.out (by exact HB.out)) rfl ((rd_T52 l0 x10_1).f1) rfl t284 (mlook.of A37.out) ?_))
           go_ret
           exact ⟨by rfl,below_step HBw.out (by exact HB.out)⟩
         ·rw [if_neg c38] at H
          have c38b0 : ((rd_T52 l0 x10_1).f2) = false:=by simpa using c38
          clear c38
          by_cases c43 : (Go.bits .and .i64 t284 ((rd_T52 l0 x10_1).f3)) = ((rd_T52 l0 x10_1).f3)
          ·rw [if_pos c43] at H
           have c43b0 : ((Go.bits .and .i64 t284 ((rd_T52 l0 x10_1).f3)) == ((rd_T52 l0 x10_1).f3)) = true:=beq_iff_eq.mpr c43
           have c43b1 : ((Go.bits .and .i64 t284 ((rd_T52 l0 x10_1).f3)) != ((rd_T52 l0 x10_1).f3)) = false:=bne_eq_false_iff_eq.mpr c43
           clear c43
           replace H:=Option.bind_eq_some_iff.mp H
           obtain ⟨t286,A440,H⟩ := H
           replace H : (impl_conflictIn.l0 kj4 l0 t286 l0 (l0.length : Int) (wrap64 (x10_1 + 1))) = some r:=H
           have A44:=Aside0.mk A440
           clear A440
           have H':=Aside0.mk H
           clear H
           have hcz45_0 : wc.cell? ⟨gb277,0,none⟩ = some (.int .i64 ((rd_T52 l0 x10_1).f0)):=(blk_cell BK277.out 0).trans rfl
           have hcz45_1 : wc.cell? ⟨gb277,1,none⟩ = some (.string ((rd_T52 l0 x10_1).f1)):=(blk_cell BK277.out 1).trans rfl
           have hcz45_2 : wc.cell? ⟨gb277,2,none⟩ = some (.bool ((rd_T52 l0 x10_1).f2)):=(blk_cell BK277.out 2).trans rfl
           have hcz45_3 : wc.cell? ⟨gb277,3,none⟩ = some (.int .i64 ((rd_T52 l0 x10_1).f3)):=(blk_cell BK277.out 3).trans rfl
           have hfz45_0:=blk_frozen BK277.out 0
           have hfz45_1:=blk_frozen BK277.out 1
           have hfz45_2:=blk_frozen BK277.out 2
           have hfz45_3:=blk_frozen BK277.out 3
           go_wp2_with (first | (at_lookup;refine mapStr_look (some 54) rfl rfl (.tmp 51) (.tmp 53) 77 9 3 rfl Try.underlying77 Try.underlying9 Try.underlying3 (fun _ => by kernel_rfl) (MapStr_below HM.out (by exact HB.out)) rfl ((rd_T52 l0 x10_1).f1) rfl t284 (mlook.of A37.out) ?_) | (at_mapUpdate;refine mapStr_put none rfl rfl (.tmp 78) (.tmp 80) (.tmp 84) 77 9 3 rfl Try.underlying77 Try.underlying9 Try.underlying3 (MapStr_below HM.out (by exact HB.out)) (by have h0_:=HX0.out;have h1_:=HX1.out;have h2_:=HLen.out;omega) rfl ((rd_T52 l0 x10_1).f1) rfl (Go.bits .andNot .i64 t284 ((rd_T52 l0 x10_1).f3)) rfl (mput.of A44.out) ?_;intro wu hMu hGu;have HMn:=Aside0.mk hMu;have HBn:=Aside0.mk (Below.grown (below_step HBw.out (by exact HB.out)) hGu (Below.size (below_step HBw.out (by exact HB.out))) (fun j hj => by cases hj;exact Nat.le_refl _));clear hMu hGu))
           go_roundg kj4
           case measure => have:=HK1.out;have:=HJ4.out;omega
           case rel => exact ⟨(t286),(wrap64 (x10_1 + 1)),(by rfl),H',⟨by have:=HK1.out;have:=HJ4.out;omega⟩,HBn,⟨MapStr_mono HMn.out (by have h0_:=HX0.out;have h1_:=HX1.out;have h2_:=HLen.out;unfold wrap64;omega)⟩⟩
          ·rw [if_neg c43] at H
           have c43b0 : ((Go.bits .and .i64 t284 ((rd_T52 l0 x10_1).f3)) == ((rd_T52 l0 x10_1).f3)) = false:=beq_eq_false_iff_ne.mpr c43
           have c43b1 : ((Go.bits .and .i64 t284 ((rd_T52 l0 x10_1).f3)) != ((rd_T52 l0 x10_1).f3)) = true:=bne_iff_ne.mpr c43
           obtain rfl:=Option.some.inj H
           have hcz46_0 : wc.cell? ⟨gb277,0,none⟩ = some (.int .i64 ((rd_T52 l0 x10_1).f0)):=(blk_cell BK277.out 0).trans rfl
           have hcz46_1 : wc.cell? ⟨gb277,1,none⟩ = some (.string ((rd_T52 l0 x10_1).f1)):=(blk_cell BK277.out 1).trans rfl
           have hcz46_2 : wc.cell? ⟨gb277,2,none⟩ = some (.bool ((rd_T52 l0 x10_1).f2)):=(blk_cell BK277.out 2).trans rfl
           have hcz46_3 : wc.cell? ⟨gb277,3,none⟩ = some (.int .i64 ((rd_T52 l0 x10_1).f3)):=(blk_cell BK277.out 3).trans rfl
           have hfz46_0:=blk_frozen BK277.out 0
           have hfz46_1:=blk_frozen BK277.out 1
           have hfz46_2:=blk_frozen BK277.out 2
           have hfz46_3:=blk_frozen BK277.out 3
           go_wp2_with ((at_lookup;refine mapStr_look (some 54) rfl rfl (.tmp 51) (.tmp 53) 77 9 3 rfl Try.underlying77 Try.underlying9 Try.underlying3 (fun _ => by kernel_rfl) (MapStr_below HM.out (by exact HB.out)) rfl ((rd_T52 l0 x10_1).f1) rfl t284 (mlook.of A37.out) ?_))
           go_ret
           exact ⟨by rfl,below_step HBw.out (by exact HB.out)⟩
     ·rw [if_neg c4] at H
      exact absurd H (by simp)
    ·rw [if_neg c3] at H
     exact absurd H (by simp)
   ·rw [if_neg c2] at H
    have c2b0 : decide (x10_1 < (l0.length : Int)) = false:=decide_eq_false c2
    clear c2
    obtain rfl:=Option.some.inj H
    go_wp2
    go_ret
    exact ⟨by rfl,below_step HBw.out (by exact HB.out)⟩

end Go.Proofs.Yteebkbikpamkmaa.PFnHolds
