-- Written by a program of this session, over the kit's print (wip/xprint.py)
import Derived.Test.YteebkbikpamkmaaPFnExactHeldContainersx0
namespace Go.Proofs.Yteebkbikpamkmaa.PFnExactHeldContainers
open Go.RowKit Go.Proofs.YteebkbikpamkmaaW.PrintWords Go.Proofs.YteebkbikpamkmaaW.PrintLast Go.Proofs.YteebkbikpamkmaaW.PrintMore
attribute [local go_sem] max2_int min2_int max_two min_two max_three min_three max_four min_four   -- for this text's walks alone
set_option linter.unusedVariables false
set_option linter.unusedSimpArgs false

/-! ### laws_szEntry: function 47 -/
def laws_szEntry.f (a0_0 : Int) (a0_1 : ByteArray) (a0_2 : Bool) (a0_3 : Int) (a1 : Int) : Option (Int):=if (wrap64 (a1 - (a0_1.size : Int))) < 0 then (some (-1)) else (some (wrap64 (a1 - (a0_1.size : Int))))
set_option maxHeartbeats 8000000 in
set_option maxRecDepth 100000 in
theorem laws_szEntry.calls (a0_0 : Int) (a0_1 : ByteArray) (a0_2 : Bool) (a0_3 : Int) (a1 : Int) (r : Int) (w : World) (h : laws_szEntry.f a0_0 a0_1 a0_2 a0_3 a1 = some r) :
  Calls Try.prog 47 #[.agg #[.int .i64 a0_0, .string a0_1, .bool a0_2, .int .i64 a0_3], .int .i64 a1] w fun e w' => e = .returned (.int .i64 r) ∧ Below w.heap.size w w':=by
 have hu72:=Try.underlying72
 have HB:=Aside0.mk (Below.refl w.heap.size w)
 have H : (if (wrap64 (a1 - (a0_1.size : Int))) < 0 then (some (-1)) else (some (wrap64 (a1 - (a0_1.size : Int))))) = some r:=h
 clear h
 by_cases c3 : (wrap64 (a1 - (a0_1.size : Int))) < 0
 ·rw [if_pos c3] at H
  have c3b0 : decide ((wrap64 (a1 - (a0_1.size : Int))) < 0) = true:=decide_eq_true c3
  clear c3
  obtain rfl:=Option.some.inj H
  go_enter Try.func47,Try.ntmps47
  go_wp2_with (((with_reducible refine gate_dst (N:=2) rfl ?_);refine box_event ?hg (N:=2) ?hd (cs:=#[.int .i64 a0_0, .string a0_1, .bool a0_2, .int .i64 a0_3]) (t:=72) ?hr ?_;(case hd => rfl);(case hg => rfl);(case hr => (go_simp;done));intro gb226 hg w4 hbox hb;have n0_:=Aside0.mk (below_step (by exact HB.out) hb);have n1_:=Aside0.mk (hbox);have n2_:=Aside0.mk ((by rw [hg];exact (below_size (by exact HB.out)) : w.heap.size ≤ gb226));have n3_:=Aside0.mk ((by rw [hg];exact (below_size (by exact HB.out)) : w.heap.size ≤ gb226));clear HB;have HB:=n0_;have BK226:=n1_;have GW226:=n2_;have GE226:=n3_;clear n0_ n1_ n2_ n3_;clear hb hbox hg;have hcz5_0 : w4.cell? ⟨gb226,0,none⟩ = some (.int .i64 a0_0):=(blk_cell BK226.out 0).trans rfl;have hcz5_1 : w4.cell? ⟨gb226,1,none⟩ = some (.string a0_1):=(blk_cell BK226.out 1).trans rfl;have hcz5_2 : w4.cell? ⟨gb226,2,none⟩ = some (.bool a0_2):=(blk_cell BK226.out 2).trans rfl;have hcz5_3 : w4.cell? ⟨gb226,3,none⟩ = some (.int .i64 a0_3):=(blk_cell BK226.out 3).trans rfl;have hfz5_0:=blk_frozen BK226.out 0;have hfz5_1:=blk_frozen BK226.out 1;have hfz5_2:=blk_frozen BK226.out 2;have hfz5_3:=blk_frozen BK226.out 3))
  go_ret
  exact ⟨by rfl,by exact HB.out⟩
 ·rw [if_neg c3] at H
  have c3b0 : decide ((wrap64 (a1 - (a0_1.size : Int))) < 0) = false:=decide_eq_false c3
  clear c3
  obtain rfl:=Option.some.inj H
  go_enter Try.func47,Try.ntmps47
  go_wp2_with (((with_reducible refine gate_dst (N:=2) rfl ?_);refine box_event ?hg (N:=2) ?hd (cs:=#[.int .i64 a0_0, .string a0_1, .bool a0_2, .int .i64 a0_3]) (t:=72) ?hr ?_;(case hd => rfl);(case hg => rfl);(case hr => (go_simp;done));intro gb226 hg w6 hbox hb;have n0_:=Aside0.mk (below_step (by exact HB.out) hb);have n1_:=Aside0.mk (hbox);have n2_:=Aside0.mk ((by rw [hg];exact (below_size (by exact HB.out)) : w.heap.size ≤ gb226));have n3_:=Aside0.mk ((by rw [hg];exact (below_size (by exact HB.out)) : w.heap.size ≤ gb226));clear HB;have HB:=n0_;have BK226:=n1_;have GW226:=n2_;have GE226:=n3_;clear n0_ n1_ n2_ n3_;clear hb hbox hg;have hcz7_0 : w6.cell? ⟨gb226,0,none⟩ = some (.int .i64 a0_0):=(blk_cell BK226.out 0).trans rfl;have hcz7_1 : w6.cell? ⟨gb226,1,none⟩ = some (.string a0_1):=(blk_cell BK226.out 1).trans rfl;have hcz7_2 : w6.cell? ⟨gb226,2,none⟩ = some (.bool a0_2):=(blk_cell BK226.out 2).trans rfl;have hcz7_3 : w6.cell? ⟨gb226,3,none⟩ = some (.int .i64 a0_3):=(blk_cell BK226.out 3).trans rfl;have hfz7_0:=blk_frozen BK226.out 0;have hfz7_1:=blk_frozen BK226.out 1;have hfz7_2:=blk_frozen BK226.out 2;have hfz7_3:=blk_frozen BK226.out 3))
  go_ret
  exact ⟨by rfl,by exact HB.out⟩

/-! ### laws_szEntryS: function 21 -/
def laws_szEntryS.l0 : Nat → List (S72) → Int → Int → Option (Int)
 | 0,_,_,_ => none
 | k + 1,x0,x1,x5 => if x5 < (x0.length : Int) then (if 0 ≤ x5 then ((laws_szEntry.f ((rd_T72 x0 x5).f0) ((rd_T72 x0 x5).f1) ((rd_T72 x0 x5).f2) ((rd_T72 x0 x5).f3) x1).bind fun t228 => (if t228 < 0 then (some (-1)) else (laws_szEntryS.l0 k x0 t228 (wrap64 (x5 + 1))))) else (none)) else (some x1)
def laws_szEntryS.f (k : Nat) (l0 : List (S72)) (a1 : Int) : Option (Int):=if (wrap64 (a1 - (l0.length : Int))) < 0 then (some (-1)) else (laws_szEntryS.l0 k l0 (wrap64 (a1 - (l0.length : Int))) 0)
theorem laws_szEntryS.mono_l : ∀ k,(∀ y0 y1 y2,LeO (laws_szEntryS.l0 k y0 y1 y2) (laws_szEntryS.l0 (k + 1) y0 y1 y2))
 | 0 => fun _ _ _ r h => by simp [laws_szEntryS.l0] at h
 | k + 1 => by
  have ih0:=laws_szEntryS.mono_l k
  ·intro y0 y1 y2
   unfold laws_szEntryS.l0
   repeat' first
   | (with_reducible exact ih0 _ _ _)
   | (with_reducible exact LeO.refl _)
   | (with_reducible exact LeO.none _)
   | (with_reducible refine LeO.ite ?_ ?_)
   | (with_reducible refine LeO.bind ?_ (fun _ => ?_))
   | exact ih0 _ _ _
   | exact LeO.none _
   | refine LeO.ite ?_ ?_
   | refine LeO.bind ?_ (fun _ => ?_)
theorem laws_szEntryS.mono : ∀ a0 a1 k,LeO (laws_szEntryS.f k a0 a1) (laws_szEntryS.f (k + 1) a0 a1):=by
 intro a0 a1 k
 have ih0:=laws_szEntryS.mono_l k
 unfold laws_szEntryS.f
 repeat' first
   | (with_reducible exact ih0 _ _ _)
   | (with_reducible exact LeO.refl _)
   | (with_reducible exact LeO.none _)
   | (with_reducible refine LeO.ite ?_ ?_)
   | (with_reducible refine LeO.bind ?_ (fun _ => ?_))
   | exact ih0 _ _ _
   | exact LeO.none _
   | refine LeO.ite ?_ ?_
   | refine LeO.bind ?_ (fun _ => ?_)
set_option maxHeartbeats 8000000 in
set_option maxRecDepth 100000 in
theorem laws_szEntryS.calls (k : Nat) (A0 : Option Addr) (c0 : Nat) (l0 : List (S72)) (a1 : Int) (r : Int) (w : World) (hr0 : Kd.C k72 w A0 l0.length l0) (hc0 : l0.length ≤ c0) (h : laws_szEntryS.f k l0 a1 = some r) :
  Calls Try.prog 21 #[.slice A0 l0.length c0, .int .i64 a1] w fun e w' => e = .returned (.int .i64 r) ∧ Below w.heap.size w w':=by
 have hu72:=Try.underlying72
 have HR0:=Aside0.mk hr0
 have HC0:=Aside0.mk hc0
 clear hr0 hc0
 have HB:=Aside0.mk (Below.refl w.heap.size w)
 have H : (if (wrap64 (a1 - (l0.length : Int))) < 0 then (some (-1)) else (laws_szEntryS.l0 k l0 (wrap64 (a1 - (l0.length : Int))) 0)) = some r:=h
 clear h
 by_cases c3 : (wrap64 (a1 - (l0.length : Int))) < 0
 ·rw [if_pos c3] at H
  have c3b0 : decide ((wrap64 (a1 - (l0.length : Int))) < 0) = true:=decide_eq_true c3
  clear c3
  obtain rfl:=Option.some.inj H
  go_enter Try.func21,Try.ntmps21
  go_wp2
  go_ret
  exact ⟨by rfl,by exact HB.out⟩
 ·rw [if_neg c3] at H
  have c3b0 : decide ((wrap64 (a1 - (l0.length : Int))) < 0) = false:=decide_eq_false c3
  clear c3
  have H':=Aside0.mk H
  clear H
  go_enter Try.func21,Try.ntmps21
  go_wp2
  (skip)
  go_loopg [1,5] k (fun kq v1 v5 w' => ∃ (x1_1 : Int) (x5_1 : Int),v1 = .int .i64 x1_1 ∧ v5 = .int .i64 x5_1 ∧ Aside0 (laws_szEntryS.l0 kq l0 x1_1 x5_1 = some r) ∧ Aside0 (kq ≤ k) ∧ Aside0 (Below w.heap.size w w'))
  case atStart => exact ⟨(wrap64 (a1 - (l0.length : Int))),(0),(by rfl),(by rfl),H',⟨Nat.le_refl _⟩,⟨by exact HB.out⟩⟩
  case round =>
   clear H'
   try clear c2
   try clear p2
   try clear c3
   try clear c3b0
   obtain ⟨x1_1,x5_1,rfl,rfl,HA,HK1,HB⟩ := hrel
   cases gk with
   | zero => exact absurd HA.out (by simp [laws_szEntryS.l0])
   | succ k1 =>
    have H:=HA.out
    clear HA
    simp only [laws_szEntryS.l0] at H
    by_cases c4 : x5_1 < (l0.length : Int)
    ·rw [if_pos c4] at H
     have c4b0 : decide (x5_1 < (l0.length : Int)) = true:=decide_eq_true c4
     clear c4
     by_cases c5 : 0 ≤ x5_1
     ·rw [if_pos c5] at H
      have c5b0 : decide (0 ≤ x5_1) = true:=decide_eq_true c5
      clear c5
      replace H:=Option.bind_eq_some_iff.mp H
      obtain ⟨t228,A60,H⟩ := H
      replace H : (if t228 < 0 then (some (-1)) else (laws_szEntryS.l0 k1 l0 t228 (wrap64 (x5_1 + 1)))) = some r:=H
      have A6:=Aside0.mk A60
      clear A60
      by_cases c7 : t228 < 0
      ·rw [if_pos c7] at H
       have c7b0 : decide (t228 < 0) = true:=decide_eq_true c7
       clear c7
       obtain rfl:=Option.some.inj H
       have p227 : 0 ≤ (x5_1 : Int):=of_decide_eq_true (by (with_reducible assumption))
       have q227 : x5_1 < (l0.length : Int):=of_decide_eq_true (by (with_reducible assumption))
       obtain ⟨ad227,e227,hx227_0,hx227_1,hx227_2,hx227_3⟩ := at_T72 HR0.out x5_1 p227 q227
       cases e227
       replace hx227_0:=(HB.out.cell (World.block_lt_of_cell? w _ hx227_0)).trans hx227_0
       replace hx227_1:=(HB.out.cell (World.block_lt_of_cell? w _ hx227_1)).trans hx227_1
       replace hx227_2:=(HB.out.cell (World.block_lt_of_cell? w _ hx227_2)).trans hx227_2
       replace hx227_3:=(HB.out.cell (World.block_lt_of_cell? w _ hx227_3)).trans hx227_3
       replace p227:=eq_true p227
       replace q227:=eq_true q227
       go_wp2_with (((with_reducible refine gate_callee (f:=47) rfl ?_);refine goesL_ (some 23) rfl rfl Try.func47 (by kernel_rfl) rfl #[.agg #[.int .i64 ((rd_T72 l0 x5_1).f0), .string ((rd_T72 l0 x5_1).f1), .bool ((rd_T72 l0 x5_1).f2), .int .i64 ((rd_T72 l0 x5_1).f3)], .int .i64 x1_1] rfl (by (try simp only [List.map_toArray,List.map_cons,List.map_nil]);rfl) ?_;(with_reducible refine (laws_szEntry.calls ((rd_T72 l0 x5_1).f0) ((rd_T72 l0 x5_1).f1) ((rd_T72 l0 x5_1).f2) ((rd_T72 l0 x5_1).f3) x1_1 t228 _ A6.out).mono ?_);rintro e w8 ⟨rfl,hb⟩;refine ⟨_,rfl, ?_⟩;have n0_:=Aside0.mk (below_step (by exact HB.out) hb);clear HB;have HB:=n0_;clear n0_;(try clear hb)))
       go_ret
       exact ⟨by rfl,by exact HB.out⟩
      ·rw [if_neg c7] at H
       have c7b0 : decide (t228 < 0) = false:=decide_eq_false c7
       clear c7
       have H':=Aside0.mk H
       clear H
       have p227 : 0 ≤ (x5_1 : Int):=of_decide_eq_true (by (with_reducible assumption))
       have q227 : x5_1 < (l0.length : Int):=of_decide_eq_true (by (with_reducible assumption))
       obtain ⟨ad227,e227,hx227_0,hx227_1,hx227_2,hx227_3⟩ := at_T72 HR0.out x5_1 p227 q227
       cases e227
       replace hx227_0:=(HB.out.cell (World.block_lt_of_cell? w _ hx227_0)).trans hx227_0
       replace hx227_1:=(HB.out.cell (World.block_lt_of_cell? w _ hx227_1)).trans hx227_1
       replace hx227_2:=(HB.out.cell (World.block_lt_of_cell? w _ hx227_2)).trans hx227_2
       replace hx227_3:=(HB.out.cell (World.block_lt_of_cell? w _ hx227_3)).trans hx227_3
       replace p227:=eq_true p227
       replace q227:=eq_true q227
       go_wp2_with (((with_reducible refine gate_callee (f:=47) rfl ?_);refine goesL_ (some 23) rfl rfl Try.func47 (by kernel_rfl) rfl #[.agg #[.int .i64 ((rd_T72 l0 x5_1).f0), .string ((rd_T72 l0 x5_1).f1), .bool ((rd_T72 l0 x5_1).f2), .int .i64 ((rd_T72 l0 x5_1).f3)], .int .i64 x1_1] rfl (by (try simp only [List.map_toArray,List.map_cons,List.map_nil]);rfl) ?_;(with_reducible refine (laws_szEntry.calls ((rd_T72 l0 x5_1).f0) ((rd_T72 l0 x5_1).f1) ((rd_T72 l0 x5_1).f2) ((rd_T72 l0 x5_1).f3) x1_1 t228 _ A6.out).mono ?_);rintro e w9 ⟨rfl,hb⟩;refine ⟨_,rfl, ?_⟩;have n0_:=Aside0.mk (below_step (by exact HB.out) hb);clear HB;have HB:=n0_;clear n0_;(try clear hb)))
       go_roundg k1
       case measure => have:=HK1.out;omega
       case rel => exact ⟨(t228),(wrap64 (x5_1 + 1)),(by rfl),(by rfl),H',⟨by have:=HK1.out;omega⟩,⟨by exact HB.out⟩⟩
     ·rw [if_neg c5] at H
      exact absurd H (by simp)
    ·rw [if_neg c4] at H
     have c4b0 : decide (x5_1 < (l0.length : Int)) = false:=decide_eq_false c4
     clear c4
     obtain rfl:=Option.some.inj H
     go_wp2
     go_ret
     exact ⟨by rfl,by exact HB.out⟩

/-! ### laws_toEntry: function 48 -/
def laws_toEntry.f (a0_0 : Int) (a0_1 : ByteArray) (a0_2 : Bool) (a0_3 : Int) : Option (Int × ByteArray × Bool × Int):=some (a0_0,a0_1,a0_2,a0_3)
set_option maxHeartbeats 8000000 in
set_option maxRecDepth 100000 in
theorem laws_toEntry.calls (a0_0 : Int) (a0_1 : ByteArray) (a0_2 : Bool) (a0_3 : Int) (r1 : Int) (r2 : ByteArray) (r3 : Bool) (r4 : Int) (w : World) (h : laws_toEntry.f a0_0 a0_1 a0_2 a0_3 = some (r1,r2,r3,r4)) :
  Calls Try.prog 48 #[.agg #[.int .i64 a0_0, .string a0_1, .bool a0_2, .int .i64 a0_3]] w fun e w' => e = .returned (.agg #[.int .i64 r1, .string r2, .bool r3, .int .i64 r4]) ∧ Below w.heap.size w w':=by
 have hu72:=Try.underlying72
 have hu52:=Try.underlying52
 have HB:=Aside0.mk (Below.refl w.heap.size w)
 have H : (some (a0_0,a0_1,a0_2,a0_3)) = some (r1,r2,r3,r4):=h
 clear h
 simp only [Option.some.injEq,Prod.mk.injEq] at H
 obtain ⟨rfl,rfl,rfl,rfl⟩ := H
 go_enter Try.func48,Try.ntmps48
 go_wp2_with (first | ((with_reducible refine gate_dst (N:=1) rfl ?_);refine box_event ?hg (N:=1) ?hd (cs:=#[.int .i64 a0_0, .string a0_1, .bool a0_2, .int .i64 a0_3]) (t:=72) ?hr ?_;(case hd => rfl);(case hg => rfl);(case hr => (go_simp;done));intro gb229 hg w2 hbox hb;have n0_:=Aside0.mk (below_step (by exact HB.out) hb);have n1_:=Aside0.mk (hbox);have n2_:=Aside0.mk ((by rw [hg];exact (below_size (by exact HB.out)) : w.heap.size ≤ gb229));have n3_:=Aside0.mk ((by rw [hg];exact (below_size (by exact HB.out)) : w.heap.size ≤ gb229));clear HB;have HB:=n0_;have BK229:=n1_;have GW229:=n2_;have GE229:=n3_;clear n0_ n1_ n2_ n3_;clear hb hbox hg) | ((with_reducible refine gate_dst (N:=2) rfl ?_);refine box_event ?hg (N:=2) ?hd (cs:=#[.int .i64 0, .string (⟨#[]⟩ : ByteArray), .bool false, .int .i64 0]) (t:=52) ?hr ?_;(case hd => rfl);(case hg => rfl);(case hr => (go_simp;done));intro gb230 hg w3 hbox hb;have n0_:=Aside0.mk (blk_below (g:=gb229) (o := .cells #[.int .i64 a0_0, .string a0_1, .bool a0_2, .int .i64 a0_3] 72 (0,0)) (by exact BK229.out) hb);have n1_:=Aside0.mk (below_step (by exact HB.out) hb);have n2_:=Aside0.mk (hbox);have n3_:=Aside0.mk ((by rw [hg];exact (below_size (by exact HB.out)) : w.heap.size ≤ gb230));have n4_:=Aside0.mk ((by rw [hg];exact (below_size (by exact HB.out)) : w.heap.size ≤ gb230));have n5_:=Aside0.mk ((by rw [hg];exact Nat.ne_of_lt (blk_lt (g:=gb229) (o := .cells #[.int .i64 a0_0, .string a0_1, .bool a0_2, .int .i64 a0_3] 72 (0,0)) (by exact BK229.out)) : gb229 ≠ gb230));have n6_:=Aside0.mk ((by rw [hg];exact Nat.ne_of_gt (blk_lt (g:=gb229) (o := .cells #[.int .i64 a0_0, .string a0_1, .bool a0_2, .int .i64 a0_3] 72 (0,0)) (by exact BK229.out)) : gb230 ≠ gb229));clear BK229;clear HB;have BK229:=n0_;have HB:=n1_;have BK230:=n2_;have GW230:=n3_;have GE230:=n4_;have NB229_230:=n5_;have NB230_229:=n6_;clear n0_ n1_ n2_ n3_ n4_ n5_ n6_;clear hb hbox hg) | ((with_reducible refine gate_dst (N:=3) rfl ?_);refine box_event ?hg (N:=3) ?hd (cs:=#[.int .i64 0, .string (⟨#[]⟩ : ByteArray), .bool false, .int .i64 0]) (t:=52) ?hr ?_;(case hd => rfl);(case hg => rfl);(case hr => (go_simp;done));intro gb231 hg w4 hbox hb;have n0_:=Aside0.mk (blk_below (g:=gb229) (o := .cells #[.int .i64 a0_0, .string a0_1, .bool a0_2, .int .i64 a0_3] 72 (0,0)) (by exact BK229.out) hb);have n1_:=Aside0.mk (blk_below (g:=gb230) (o := .cells #[.int .i64 0, .string (⟨#[]⟩ : ByteArray), .bool false, .int .i64 0] 52 (0,0)) (by exact BK230.out) hb);have n2_:=Aside0.mk (below_step (by exact HB.out) hb);have n3_:=Aside0.mk (hbox);have n4_:=Aside0.mk ((by rw [hg];exact (below_size (by exact HB.out)) : w.heap.size ≤ gb231));have n5_:=Aside0.mk ((by rw [hg];exact (below_size (by exact HB.out)) : w.heap.size ≤ gb231));have n6_:=Aside0.mk ((by rw [hg];exact Nat.ne_of_lt (blk_lt (g:=gb229) (o := .cells #[.int .i64 a0_0, .string a0_1, .bool a0_2, .int .i64 a0_3] 72 (0,0)) (by exact BK229.out)) : gb229 ≠ gb231));have n7_:=Aside0.mk ((by rw [hg];exact Nat.ne_of_gt (blk_lt (g:=gb229) (o := .cells #[.int .i64 a0_0, .string a0_1, .bool a0_2, .int .i64 a0_3] 72 (0,0)) (by exact BK229.out)) : gb231 ≠ gb229));have n8_:=Aside0.mk ((by rw [hg];exact Nat.ne_of_lt (blk_lt (g:=gb230) (o := .cells #[.int .i64 0, .string (⟨#[]⟩ : ByteArray), .bool false, .int .i64 0] 52 (0,0)) (by exact BK230.out)) : gb230 ≠ gb231));have n9_:=Aside0.mk ((by rw [hg];exact Nat.ne_of_gt (blk_lt (g:=gb230) (o := .cells #[.int .i64 0, .string (⟨#[]⟩ : ByteArray), .bool false, .int .i64 0] 52 (0,0)) (by exact BK230.out)) : gb231 ≠ gb230));clear BK229;clear BK230;clear HB;have BK229:=n0_;have BK230:=n1_;have HB:=n2_;have BK231:=n3_;have GW231:=n4_;have GE231:=n5_;have NB229_231:=n6_;have NB231_229:=n7_;have NB230_231:=n8_;have NB231_230:=n9_;clear n0_ n1_ n2_ n3_ n4_ n5_ n6_ n7_ n8_ n9_;clear hb hbox hg;have hnb5:=NB229_230.out;have hnc5:=NB230_229.out;have hnb6:=NB229_231.out;have hnc6:=NB231_229.out;have hcz7_0 : w4.cell? ⟨gb229,0,none⟩ = some (.int .i64 a0_0):=(blk_cell BK229.out 0).trans rfl;have hcz7_1 : w4.cell? ⟨gb229,1,none⟩ = some (.string a0_1):=(blk_cell BK229.out 1).trans rfl;have hcz7_2 : w4.cell? ⟨gb229,2,none⟩ = some (.bool a0_2):=(blk_cell BK229.out 2).trans rfl;have hcz7_3 : w4.cell? ⟨gb229,3,none⟩ = some (.int .i64 a0_3):=(blk_cell BK229.out 3).trans rfl;have hfz7_0:=blk_frozen BK229.out 0;have hfz7_1:=blk_frozen BK229.out 1;have hfz7_2:=blk_frozen BK229.out 2;have hfz7_3:=blk_frozen BK229.out 3;have hnb8:=NB231_230.out;have hnc8:=NB230_231.out;have hcz9_0 : w4.cell? ⟨gb231,0,none⟩ = some (.int .i64 0):=(blk_cell BK231.out 0).trans rfl;have hcz9_1 : w4.cell? ⟨gb231,1,none⟩ = some (.string (⟨#[]⟩ : ByteArray)):=(blk_cell BK231.out 1).trans rfl;have hcz9_2 : w4.cell? ⟨gb231,2,none⟩ = some (.bool false):=(blk_cell BK231.out 2).trans rfl;have hcz9_3 : w4.cell? ⟨gb231,3,none⟩ = some (.int .i64 0):=(blk_cell BK231.out 3).trans rfl;have hfz9_0:=blk_frozen BK231.out 0;have hfz9_1:=blk_frozen BK231.out 1;have hfz9_2:=blk_frozen BK231.out 2;have hfz9_3:=blk_frozen BK231.out 3;have hcz10_0 : w4.cell? ⟨gb230,0,none⟩ = some (.int .i64 0):=(blk_cell BK230.out 0).trans rfl;have hcz10_1 : w4.cell? ⟨gb230,1,none⟩ = some (.string (⟨#[]⟩ : ByteArray)):=(blk_cell BK230.out 1).trans rfl;have hcz10_2 : w4.cell? ⟨gb230,2,none⟩ = some (.bool false):=(blk_cell BK230.out 2).trans rfl;have hcz10_3 : w4.cell? ⟨gb230,3,none⟩ = some (.int .i64 0):=(blk_cell BK230.out 3).trans rfl;have hfz10_0:=blk_frozen BK230.out 0;have hfz10_1:=blk_frozen BK230.out 1;have hfz10_2:=blk_frozen BK230.out 2;have hfz10_3:=blk_frozen BK230.out 3))
 refine bodyPost_ret (results_cell_row rfl _ _ gb230 52 #[.int .i64 a0_0, .string a0_1, .bool a0_2, .int .i64 a0_3] (0,0) _ rfl (by refine blk_put (cs:=#[.int .i64 a0_0, .string a0_1, .bool a0_2, .int .i64 0]) ?_ 3 _ rfl;refine blk_put (cs:=#[.int .i64 a0_0, .string a0_1, .bool false, .int .i64 0]) ?_ 2 _ rfl;refine blk_put (cs:=#[.int .i64 a0_0, .string (⟨#[]⟩ : ByteArray), .bool false, .int .i64 0]) ?_ 1 _ rfl;refine blk_put (cs:=#[.int .i64 0, .string (⟨#[]⟩ : ByteArray), .bool false, .int .i64 0]) ?_ 0 _ rfl;refine blk_far ?_ NB230_231.out _;refine blk_far ?_ NB230_231.out _;refine blk_far ?_ NB230_231.out _;refine blk_far ?_ NB230_231.out _;exact BK230.out) Try.underlying52 rfl (by kernel_rfl)) rfl ?_
 exact ⟨by rfl,by repeat ((with_reducible first | exact HB.out | refine below_set ?_ GE230.out | refine below_set ?_ GE231.out))⟩

/-! ### laws_toEntryS: function 22 -/
def laws_toEntryS.l0 : Nat → List (S72) → List (S52) → Int → Option ((List (S52)))
 | 0,_,_,_ => none
 | k + 1,x0,x3,x4 => if x4 < (x0.length : Int) then (if 0 ≤ x4 then ((laws_toEntry.f ((rd_T72 x0 x4).f0) ((rd_T72 x0 x4).f1) ((rd_T72 x0 x4).f2) ((rd_T72 x0 x4).f3)).bind fun bt236 => (if x4 < (x3.length : Int) then (laws_toEntryS.l0 k x0 (x3.set (x4 : Int).toNat (⟨bt236.1,bt236.2.1,bt236.2.2.1,bt236.2.2.2⟩ : S52)) (wrap64 (x4 + 1))) else (none))) else (none)) else (some x3)
def laws_toEntryS.f (k : Nat) (l0 : List (S72)) : Option ((List (S52))):=if 0 ≤ (l0.length : Int) then (if ((l0.length : Int) : Int).toNat ≤ 7036874417766 then (laws_toEntryS.l0 k l0 (List.replicate ((l0.length : Int) : Int).toNat z52) 0) else (none)) else (none)
theorem laws_toEntryS.mono_l : ∀ k,(∀ y0 y1 y2,LeO (laws_toEntryS.l0 k y0 y1 y2) (laws_toEntryS.l0 (k + 1) y0 y1 y2))
 | 0 => fun _ _ _ r h => by simp [laws_toEntryS.l0] at h
 | k + 1 => by
  have ih0:=laws_toEntryS.mono_l k
  ·intro y0 y1 y2
   unfold laws_toEntryS.l0
   repeat' first
   | (with_reducible exact ih0 _ _ _)
   | (with_reducible exact LeO.refl _)
   | (with_reducible exact LeO.none _)
   | (with_reducible refine LeO.ite ?_ ?_)
   | (with_reducible refine LeO.bind ?_ (fun _ => ?_))
   | exact ih0 _ _ _
   | exact LeO.none _
   | refine LeO.ite ?_ ?_
   | refine LeO.bind ?_ (fun _ => ?_)
theorem laws_toEntryS.mono : ∀ a0 k,LeO (laws_toEntryS.f k a0) (laws_toEntryS.f (k + 1) a0):=by
 intro a0 k
 have ih0:=laws_toEntryS.mono_l k
 unfold laws_toEntryS.f
 repeat' first
   | (with_reducible exact ih0 _ _ _)
   | (with_reducible exact LeO.refl _)
   | (with_reducible exact LeO.none _)
   | (with_reducible refine LeO.ite ?_ ?_)
   | (with_reducible refine LeO.bind ?_ (fun _ => ?_))
   | exact ih0 _ _ _
   | exact LeO.none _
   | refine LeO.ite ?_ ?_
   | refine LeO.bind ?_ (fun _ => ?_)
set_option maxHeartbeats 8000000 in
set_option maxRecDepth 100000 in
theorem laws_toEntryS.calls (k : Nat) (A0 : Option Addr) (c0 : Nat) (l0 : List (S72)) (r : List (S52)) (w : World) (hr0 : Kd.C k72 w A0 l0.length l0) (hc0 : l0.length ≤ c0) (h : laws_toEntryS.f k l0 = some r) :
  Calls Try.prog 22 #[.slice A0 l0.length c0] w fun e w' => ∃ v0_ : Value,e = .returned (v0_) ∧ Kd.R k52 52 w' w.heap.size (fun _ => True) v0_ r ∧ Below w.heap.size w w':=by
 have hu72:=Try.underlying72
 have hu52:=Try.underlying52
 have HR0:=Aside0.mk hr0
 have HC0:=Aside0.mk hc0
 clear hr0 hc0
 have HB:=Aside0.mk (Below.refl w.heap.size w)
 have H : (if 0 ≤ (l0.length : Int) then (if ((l0.length : Int) : Int).toNat ≤ 7036874417766 then (laws_toEntryS.l0 k l0 (List.replicate ((l0.length : Int) : Int).toNat z52) 0) else (none)) else (none)) = some r:=h
 clear h
 by_cases c2 : 0 ≤ (l0.length : Int)
 ·rw [if_pos c2] at H
  have c2b0:=eq_true c2
  have c2b1 : decide (0 ≤ (l0.length : Int)) = true:=decide_eq_true c2
  clear c2
  by_cases c3 : ((l0.length : Int) : Int).toNat ≤ 7036874417766
  ·rw [if_pos c3] at H
   have c3b0:=eq_true c3
   have c3b1 : decide (((l0.length : Int) : Int).toNat ≤ 7036874417766) = true:=decide_eq_true c3
   clear c3
   obtain ⟨y232,hy232⟩ : ∃ y_ : List (S52),y_ = (List.replicate ((l0.length : Int) : Int).toNat z52):=⟨_,rfl⟩
   replace H : (laws_toEntryS.l0 k l0 y232 0) = some r:=by (rw [hy232];with_reducible exact H)
   have Ny232:=Aside0.mk hy232
   clear hy232
   have H':=Aside0.mk H
   clear H
   go_enter Try.func22,Try.ntmps22
   go_wp2_with (((with_reducible refine gate_dst (N:=7) rfl ?_);refine Kd.R_make k52 _ 52 rfl (N:=7) rfl 24 _ _ rfl (l0.length : Int) rfl rfl Try.underlying24 (.agg #[(.int .i64 0),(.string ⟨#[]⟩),(.bool false),(.int .i64 0)]) 40 info52 rfl (by decide) (by omega) z52 (ok:=fun _ => True) (okp:=fun _ => True) (k52_mkM _ _ _ z52 ) (fun _ hk => hk) trivial (of_decide_eq_true (by (with_reducible assumption))) (Nat.le_trans (Nat.mul_le_mul_right _ (of_decide_eq_true (by (with_reducible assumption)) : (l0.length : Int).toNat ≤ 7036874417766)) (by omega)) (Below.refl _ _) (Nat.le_refl _) ?_;intro v233 w4 ho5 hb hg_ hnew_;clear hg_ hnew_;(rw [← Ny232.out] at ho5);have n0_:=Aside0.mk (Kd.R_lower ho5 (below_size (by exact HB.out)));have n1_:=Aside0.mk (below_step (by exact HB.out) hb);clear HB;have HO234:=n0_;have HB:=n1_;clear n0_ n1_;clear hb ho5))
   (skip)
   go_loopg [4] k (fun kq v4 w' => ∃ (x3_1 : List (S52)) (x4_1 : Int),v4 = .int .i64 x4_1 ∧ Aside0 (laws_toEntryS.l0 kq l0 x3_1 x4_1 = some r) ∧ Aside0 (kq ≤ k) ∧ Aside0 (Kd.R k52 52 w' w.heap.size (fun _ => True) v233 x3_1) ∧ Aside0 (Below w.heap.size w w'))
   case atStart => exact ⟨(y232),(0),(by rfl),H',⟨Nat.le_refl _⟩,⟨by exact HO234.out⟩,⟨by exact HB.out⟩⟩
   case round =>
    clear H'
    try clear c2
    try clear c2b0
    try clear c2b1
    try clear p2
    try clear c3
    try clear c3b0
    try clear c3b1
    obtain ⟨x3_1,x4_1,rfl,HA,HK1,HO_3,HB⟩ := hrel
    cases gk with
    | zero => exact absurd HA.out (by simp [laws_toEntryS.l0])
    | succ k1 =>
     have H:=HA.out
     clear HA
     simp only [laws_toEntryS.l0] at H
     by_cases c6 : x4_1 < (l0.length : Int)
     ·rw [if_pos c6] at H
      have c6b0 : decide (x4_1 < (l0.length : Int)) = true:=decide_eq_true c6
      clear c6
      by_cases c7 : 0 ≤ x4_1
      ·rw [if_pos c7] at H
       have c7b0 : decide (0 ≤ x4_1) = true:=decide_eq_true c7
       clear c7
       replace H:=Option.bind_eq_some_iff.mp H
       obtain ⟨⟨t236,t237,t238,t239⟩,A80,H⟩ := H
       replace H : (if x4_1 < (x3_1.length : Int) then (laws_toEntryS.l0 k1 l0 (x3_1.set (x4_1 : Int).toNat (⟨t236,t237,t238,t239⟩ : S52)) (wrap64 (x4_1 + 1))) else (none)) = some r:=H
       have A8:=Aside0.mk A80
       clear A80
       by_cases c9 : x4_1 < (x3_1.length : Int)
       ·rw [if_pos c9] at H
        have c9b0 : decide (x4_1 < (x3_1.length : Int)) = true:=decide_eq_true c9
        clear c9
        obtain ⟨y240,hy240⟩ : ∃ y_ : List (S52),y_ = (x3_1.set (x4_1 : Int).toNat (⟨t236,t237,t238,t239⟩ : S52)):=⟨_,rfl⟩
        replace H : (laws_toEntryS.l0 k1 l0 y240 (wrap64 (x4_1 + 1))) = some r:=by (rw [hy240];with_reducible exact H)
        have Ny240:=Aside0.mk hy240
        clear hy240
        have H':=Aside0.mk H
        clear H
        have p235 : 0 ≤ (x4_1 : Int):=of_decide_eq_true (by (with_reducible assumption))
        have q235 : x4_1 < (l0.length : Int):=of_decide_eq_true (by (with_reducible assumption))
        obtain ⟨ad235,e235,hx235_0,hx235_1,hx235_2,hx235_3⟩ := at_T72 HR0.out x4_1 p235 q235
        cases e235
        replace hx235_0:=(HB.out.cell (World.block_lt_of_cell? w _ hx235_0)).trans hx235_0
        replace hx235_1:=(HB.out.cell (World.block_lt_of_cell? w _ hx235_1)).trans hx235_1
        replace hx235_2:=(HB.out.cell (World.block_lt_of_cell? w _ hx235_2)).trans hx235_2
        replace hx235_3:=(HB.out.cell (World.block_lt_of_cell? w _ hx235_3)).trans hx235_3
        replace p235:=eq_true p235
        replace q235:=eq_true q235
        go_wp2_with (first | ((with_reducible refine gate_callee (f:=48) rfl ?_);refine goesL_ (some 20) rfl rfl Try.func48 (by kernel_rfl) rfl #[.agg #[.int .i64 ((rd_T72 l0 x4_1).f0), .string ((rd_T72 l0 x4_1).f1), .bool ((rd_T72 l0 x4_1).f2), .int .i64 ((rd_T72 l0 x4_1).f3)]] rfl (by (try simp only [List.map_toArray,List.map_cons,List.map_nil]);rfl) ?_;(with_reducible refine (laws_toEntry.calls ((rd_T72 l0 x4_1).f0) ((rd_T72 l0 x4_1).f1) ((rd_T72 l0 x4_1).f2) ((rd_T72 l0 x4_1).f3) t236 t237 t238 t239 _ A8.out).mono ?_);rintro e w11 ⟨rfl,hb⟩;refine ⟨_,rfl, ?_⟩;have n0_:=Aside0.mk (Kd.R_below (by exact HO_3.out) hb);have n1_:=Aside0.mk (below_step (by exact HB.out) hb);clear HO_3;clear HB;have HO_3:=n0_;have HB:=n1_;clear n0_ n1_;(try clear hb);have p10 : 0 ≤ (x4_1 : Int):=of_decide_eq_true (by (with_reducible assumption));have q10 : (x4_1 : Int) < ((x3_1.length : Int) : Int):=of_decide_eq_true (by (with_reducible assumption));obtain ⟨go10,co10,eo10,gb10,gl10,cl10,HG10⟩ := Kd.R_form HO_3.out (by omega);(cases eo10);have GB10:=Aside0.mk gb10;have GG10:=Aside0.mk HG10;clear gb10 gl10 HG10;obtain ⟨ce10,hcl10,hM10,hcc10,hfr10⟩ := Kd.R_elem HO_3.out z52 (x4_1 : Int) p10 q10;obtain rfl:=k52_openM hM10;have hx10_0 : w11.cell? ⟨go10,(x4_1 : Int).toNat * 4,none⟩ = some (.int .i64 ((rd_T52 x3_1 x4_1).f0)):=hcc10 0 _ rfl;have hx10_1 : w11.cell? ⟨go10,(x4_1 : Int).toNat * 4 + 1,none⟩ = some (.string ((rd_T52 x3_1 x4_1).f1)):=hcc10 1 _ rfl;have hx10_2 : w11.cell? ⟨go10,(x4_1 : Int).toNat * 4 + 2,none⟩ = some (.bool ((rd_T52 x3_1 x4_1).f2)):=hcc10 2 _ rfl;have hx10_3 : w11.cell? ⟨go10,(x4_1 : Int).toNat * 4 + 3,none⟩ = some (.int .i64 ((rd_T52 x3_1 x4_1).f3)):=hcc10 3 _ rfl;have hf10_0 : w11.frozen? ⟨go10,(x4_1 : Int).toNat * 4,none⟩ = false:=hfr10 0;have hf10_1 : w11.frozen? ⟨go10,(x4_1 : Int).toNat * 4 + 1,none⟩ = false:=hfr10 1;have hf10_2 : w11.frozen? ⟨go10,(x4_1 : Int).toNat * 4 + 2,none⟩ = false:=hfr10 2;have hf10_3 : w11.frozen? ⟨go10,(x4_1 : Int).toNat * 4 + 3,none⟩ = false:=hfr10 3;clear hcl10 hcc10 hfr10;(try clear hM10);replace p10:=eq_true p10;replace q10:=eq_true q10;have HX12:=Aside0.mk (show Kd.R k52 52 w11 w.heap.size (fun _ => True) (.slice (some ⟨go10,0,none⟩) x3_1.length co10) x3_1 from (by exact HO_3.out));obtain ⟨ce12,hcl12,hM12,hcc12,hfr12⟩ := Kd.R_elem HX12.out z52 (x4_1 : Int) (of_decide_eq_true (by (with_reducible assumption))) (by have h_ : (x4_1 : Int) < ((x3_1.length : Int) : Int):=of_decide_eq_true (by (with_reducible assumption));exact h_);obtain rfl:=k52_openM hM12;have HP12:=Kd.R_seg HX12.out (x4_1 : Int) (of_decide_eq_true (by (with_reducible assumption))) (by have h_ : (x4_1 : Int) < ((x3_1.length : Int) : Int):=of_decide_eq_true (by (with_reducible assumption));exact h_) (seg := [.int .i64 t236, .string t237, .bool t238, .int .i64 t239]) (j:=0) hcl12 hcc12 (show 4 ≤ 4 from by decide) (x':=(⟨t236,t237,t238,t239⟩ : S52)) (k52_mkM _ _ _ (⟨t236,t237,t238,t239⟩ : S52) ) (fun _ hk => hk);have hx12_0:=hcc12 0 _ rfl;(try simp only [show (k52).sz = 4 from rfl,Nat.mul_one,Nat.add_zero] at hx12_0);have hf12_0:=hfr12 0;(try simp only [show (k52).sz = 4 from rfl,Nat.mul_one,Nat.add_zero] at hf12_0);have hx12_1:=hcc12 1 _ rfl;(try simp only [show (k52).sz = 4 from rfl,Nat.mul_one,Nat.add_zero] at hx12_1);have hf12_1:=hfr12 1;(try simp only [show (k52).sz = 4 from rfl,Nat.mul_one,Nat.add_zero] at hf12_1);have hx12_2:=hcc12 2 _ rfl;(try simp only [show (k52).sz = 4 from rfl,Nat.mul_one,Nat.add_zero] at hx12_2);have hf12_2:=hfr12 2;(try simp only [show (k52).sz = 4 from rfl,Nat.mul_one,Nat.add_zero] at hf12_2);have hx12_3:=hcc12 3 _ rfl;(try simp only [show (k52).sz = 4 from rfl,Nat.mul_one,Nat.add_zero] at hx12_3);have hf12_3:=hfr12 3;(try simp only [show (k52).sz = 4 from rfl,Nat.mul_one,Nat.add_zero] at hf12_3);clear hcl12 hcc12 hfr12;(try clear hM12)) | ((with_reducible refine gate_store (t:=52) (p:=21) rfl ?_);refine store_event (t:=52) (p:=21) (v:=?vo_w13) (w1:=((((w11.setCell ⟨go10,(x4_1 : Int).toNat * 4,none⟩ (.int .i64 t236)).setCell ⟨go10,(x4_1 : Int).toNat * 4 + 1,none⟩ (.string t237)).setCell ⟨go10,(x4_1 : Int).toNat * 4 + 2,none⟩ (.bool t238)).setCell ⟨go10,(x4_1 : Int).toNat * 4 + 3,none⟩ (.int .i64 t239))) ?hg ?ho ?hn ?hr ?_;(case ho => rfl);(case hg => rfl);(case hn => rfl);(case hr => (go_simp;done));intro w13 hw;have hg : w11.grownBy w13 (some go10):=(by rw [hw];exact HP12.2);have hp_ : Kd.R k52 52 w13 w.heap.size (fun _ => True) (.slice (some ⟨go10,0,none⟩) x3_1.length co10) y240:=(by rw [hw,Ny240.out];exact HP12.1);clear HP12;have n0_:=Aside0.mk (hp_);have n1_:=Aside0.mk ((by rw [hw];exact below_set (below_set (below_set (below_set (HB.out) GB10.out) GB10.out) GB10.out) GB10.out : Below w.heap.size w w13));clear HO_3;clear HB;have HO_3:=n0_;have HB:=n1_;clear n0_ n1_;clear hg hw hp_))
        go_roundg k1
        case measure => have:=HK1.out;omega
        case rel => exact ⟨(y240),(wrap64 (x4_1 + 1)),(by rfl),H',⟨by have:=HK1.out;omega⟩,⟨by exact HO_3.out⟩,⟨by exact HB.out⟩⟩
       ·rw [if_neg c9] at H
        exact absurd H (by simp)
      ·rw [if_neg c7] at H
       exact absurd H (by simp)
     ·rw [if_neg c6] at H
      have c6b0 : decide (x4_1 < (l0.length : Int)) = false:=decide_eq_false c6
      clear c6
      obtain rfl:=Option.some.inj H
      go_wp2
      go_ret
      exact ⟨_,by rfl,by exact HO_3.out,by exact HB.out⟩
  ·rw [if_neg c3] at H
   exact absurd H (by simp)
 ·rw [if_neg c2] at H
  exact absurd H (by simp)

/-! ### laws_eqStringS: function 23 -/
def laws_eqStringS.l0 : Nat → List ByteArray → List ByteArray → Int → Option (Bool)
 | 0,_,_,_ => none
 | k + 1,x0,x1,x5 => if x5 < (x0.length : Int) then (if 0 ≤ x5 then (if x5 < (x1.length : Int) then (if (rdOf ByteArray.empty x0 x5).toList = (rdOf ByteArray.empty x1 x5).toList then (laws_eqStringS.l0 k x0 x1 (wrap64 (x5 + 1))) else (some false)) else (none)) else (none)) else (some true)
def laws_eqStringS.f (k : Nat) (l0 : List ByteArray) (l1 : List ByteArray) : Option (Bool):=if (l0.length : Int) = (l1.length : Int) then (laws_eqStringS.l0 k l0 l1 0) else (some false)
theorem laws_eqStringS.mono_l : ∀ k,(∀ y0 y1 y2,LeO (laws_eqStringS.l0 k y0 y1 y2) (laws_eqStringS.l0 (k + 1) y0 y1 y2))
 | 0 => fun _ _ _ r h => by simp [laws_eqStringS.l0] at h
 | k + 1 => by
  have ih0:=laws_eqStringS.mono_l k
  ·intro y0 y1 y2
   unfold laws_eqStringS.l0
   repeat' first
   | (with_reducible exact ih0 _ _ _)
   | (with_reducible exact LeO.refl _)
   | (with_reducible exact LeO.none _)
   | (with_reducible refine LeO.ite ?_ ?_)
   | (with_reducible refine LeO.bind ?_ (fun _ => ?_))
   | exact ih0 _ _ _
   | exact LeO.none _
   | refine LeO.ite ?_ ?_
   | refine LeO.bind ?_ (fun _ => ?_)
theorem laws_eqStringS.mono : ∀ a0 a1 k,LeO (laws_eqStringS.f k a0 a1) (laws_eqStringS.f (k + 1) a0 a1):=by
 intro a0 a1 k
 have ih0:=laws_eqStringS.mono_l k
 unfold laws_eqStringS.f
 repeat' first
   | (with_reducible exact ih0 _ _ _)
   | (with_reducible exact LeO.refl _)
   | (with_reducible exact LeO.none _)
   | (with_reducible refine LeO.ite ?_ ?_)
   | (with_reducible refine LeO.bind ?_ (fun _ => ?_))
   | exact ih0 _ _ _
   | exact LeO.none _
   | refine LeO.ite ?_ ?_
   | refine LeO.bind ?_ (fun _ => ?_)
set_option maxHeartbeats 8000000 in
set_option maxRecDepth 100000 in
theorem laws_eqStringS.calls (k : Nat) (A0 : Option Addr) (c0 : Nat) (l0 : List ByteArray) (A1 : Option Addr) (c1 : Nat) (l1 : List ByteArray) (r : Bool) (w : World) (hr0 : Kd.C Kd.string w A0 l0.length l0) (hc0 : l0.length ≤ c0) (hr1 : Kd.C Kd.string w A1 l1.length l1) (hc1 : l1.length ≤ c1) (h : laws_eqStringS.f k l0 l1 = some r) :
  Calls Try.prog 23 #[.slice A0 l0.length c0, .slice A1 l1.length c1] w fun e w' => e = .returned (.bool r) ∧ Drawn0 w w':=by
 have HR0:=Aside0.mk hr0
 have HC0:=Aside0.mk hc0
 clear hr0 hc0
 have HR1:=Aside0.mk hr1
 have HC1:=Aside0.mk hc1
 clear hr1 hc1
 have H : (if (l0.length : Int) = (l1.length : Int) then (laws_eqStringS.l0 k l0 l1 0) else (some false)) = some r:=h
 clear h
 by_cases c3 : (l0.length : Int) = (l1.length : Int)
 ·rw [if_pos c3] at H
  have c3b0 : ((l0.length : Int) == (l1.length : Int)) = true:=beq_iff_eq.mpr c3
  have c3b1 : ((l0.length : Int) != (l1.length : Int)) = false:=bne_eq_false_iff_eq.mpr c3
  have c3b2 : (l0.length == l1.length) = true:=by (simp at c3 ⊢;omega)
  clear c3
  have H':=Aside0.mk H
  clear H
  go_enter Try.func23,Try.ntmps23
  go_wp2
  repeat (go_quiet (fail);try go_wp2)
  (skip)
  go_loopg [5] k (fun kq v5 w' => ∃ (x5_1 : Int),v5 = .int .i64 x5_1 ∧ Aside0 (laws_eqStringS.l0 kq l0 l1 x5_1 = some r) ∧ Aside0 (kq ≤ k) ∧ Drawn0 w w')
  case atStart => exact ⟨(0),(by rfl),H',⟨Nat.le_refl _⟩,by repeat (exact Drawn0.refl _)⟩
  case round =>
   clear H'
   try clear c1
   try clear c2
   try clear p2
   try clear c3
   try clear c3b0
   try clear c3b1
   try clear c3b2
   obtain ⟨x5_1,rfl,HA,HK1,⟨m1,rfl⟩⟩ := hrel
   cases gk with
   | zero => exact absurd HA.out (by simp [laws_eqStringS.l0])
   | succ k1 =>
    have H:=HA.out
    clear HA
    simp only [laws_eqStringS.l0] at H
    by_cases c4 : x5_1 < (l0.length : Int)
    ·rw [if_pos c4] at H
     have c4b0 : decide (x5_1 < (l0.length : Int)) = true:=decide_eq_true c4
     clear c4
     by_cases c5 : 0 ≤ x5_1
     ·rw [if_pos c5] at H
      have c5b0 : decide (0 ≤ x5_1) = true:=decide_eq_true c5
      clear c5
      by_cases c6 : x5_1 < (l1.length : Int)
      ·rw [if_pos c6] at H
       have c6b0 : decide (x5_1 < (l1.length : Int)) = true:=decide_eq_true c6
       clear c6
       by_cases c7 : (rdOf ByteArray.empty l0 x5_1).toList = (rdOf ByteArray.empty l1 x5_1).toList
       ·rw [if_pos c7] at H
        have c7b0 : ((rdOf ByteArray.empty l0 x5_1).toList == (rdOf ByteArray.empty l1 x5_1).toList) = true:=beq_iff_eq.mpr c7
        have c7b1 : ((rdOf ByteArray.empty l0 x5_1).toList != (rdOf ByteArray.empty l1 x5_1).toList) = false:=bne_eq_false_iff_eq.mpr c7
        clear c7
        have H':=Aside0.mk H
        clear H
        have p241 : 0 ≤ (x5_1 : Int):=of_decide_eq_true (by (with_reducible assumption))
        have q241 : x5_1 < (l0.length : Int):=of_decide_eq_true (by (with_reducible assumption))
        obtain ⟨ad241,e241,hx241_0⟩ := Kd.at_string HR0.out x5_1 p241 q241
        cases e241
        replace p241:=eq_true p241
        replace q241:=eq_true q241
        have p242 : 0 ≤ (x5_1 : Int):=of_decide_eq_true (by (with_reducible assumption))
        have q242 : x5_1 < (l1.length : Int):=of_decide_eq_true (by (with_reducible assumption))
        obtain ⟨ad242,e242,hx242_0⟩ := Kd.at_string HR1.out x5_1 p242 q242
        cases e242
        replace p242:=eq_true p242
        replace q242:=eq_true q242
        go_wp2
        repeat (go_quiet (fail);try go_wp2)
        go_roundg k1
        case measure => have:=HK1.out;omega
        case rel => exact ⟨(wrap64 (x5_1 + 1)),(by rfl),H',⟨by have:=HK1.out;omega⟩,by repeat (first | exact Drawn0.refl _ | apply Drawn0.step)⟩
       ·rw [if_neg c7] at H
        have c7b0 : ((rdOf ByteArray.empty l0 x5_1).toList == (rdOf ByteArray.empty l1 x5_1).toList) = false:=beq_eq_false_iff_ne.mpr c7
        have c7b1 : ((rdOf ByteArray.empty l0 x5_1).toList != (rdOf ByteArray.empty l1 x5_1).toList) = true:=bne_iff_ne.mpr c7
        obtain rfl:=Option.some.inj H
        have p241 : 0 ≤ (x5_1 : Int):=of_decide_eq_true (by (with_reducible assumption))
        have q241 : x5_1 < (l0.length : Int):=of_decide_eq_true (by (with_reducible assumption))
        obtain ⟨ad241,e241,hx241_0⟩ := Kd.at_string HR0.out x5_1 p241 q241
        cases e241
        replace p241:=eq_true p241
        replace q241:=eq_true q241
        have p242 : 0 ≤ (x5_1 : Int):=of_decide_eq_true (by (with_reducible assumption))
        have q242 : x5_1 < (l1.length : Int):=of_decide_eq_true (by (with_reducible assumption))
        obtain ⟨ad242,e242,hx242_0⟩ := Kd.at_string HR1.out x5_1 p242 q242
        cases e242
        replace p242:=eq_true p242
        replace q242:=eq_true q242
        go_wp2
        repeat (go_quiet (fail);try go_wp2)
        go_ret
        exact ⟨by rfl,by repeat (first | exact Drawn0.refl _ | apply Drawn0.step)⟩
      ·rw [if_neg c6] at H
       exact absurd H (by simp)
     ·rw [if_neg c5] at H
      exact absurd H (by simp)
    ·rw [if_neg c4] at H
     have c4b0 : decide (x5_1 < (l0.length : Int)) = false:=decide_eq_false c4
     clear c4
     obtain rfl:=Option.some.inj H
     go_wp2
     repeat (go_quiet (fail);try go_wp2)
     go_ret
     exact ⟨by rfl,by repeat (first | exact Drawn0.refl _ | apply Drawn0.step)⟩
 ·rw [if_neg c3] at H
  have c3b0 : ((l0.length : Int) == (l1.length : Int)) = false:=beq_eq_false_iff_ne.mpr c3
  have c3b1 : ((l0.length : Int) != (l1.length : Int)) = true:=bne_iff_ne.mpr c3
  have c3b2 : (l0.length == l1.length) = false:=by (simp at c3 ⊢;omega)
  obtain rfl:=Option.some.inj H
  go_enter Try.func23,Try.ntmps23
  go_wp2
  repeat (go_quiet (fail);try go_wp2)
  go_ret
  exact ⟨by rfl,by repeat (exact Drawn0.refl _)⟩

/-! ### laws_eqEntry: function 49 -/
def laws_eqEntry.f (a0_0 : Int) (a0_1 : ByteArray) (a0_2 : Bool) (a0_3 : Int) (a1_0 : Int) (a1_1 : ByteArray) (a1_2 : Bool) (a1_3 : Int) : Option (Bool):=if a0_0 = a1_0 then (if a0_1.toList = a1_1.toList then (if (a0_2 != a1_2) = true then (some false) else (if a0_3 = a1_3 then (some true) else (some false))) else (some false)) else (some false)
set_option maxHeartbeats 8000000 in
set_option maxRecDepth 100000 in
theorem laws_eqEntry.calls (a0_0 : Int) (a0_1 : ByteArray) (a0_2 : Bool) (a0_3 : Int) (a1_0 : Int) (a1_1 : ByteArray) (a1_2 : Bool) (a1_3 : Int) (r : Bool) (w : World) (h : laws_eqEntry.f a0_0 a0_1 a0_2 a0_3 a1_0 a1_1 a1_2 a1_3 = some r) :
  Calls Try.prog 49 #[.agg #[.int .i64 a0_0, .string a0_1, .bool a0_2, .int .i64 a0_3], .agg #[.int .i64 a1_0, .string a1_1, .bool a1_2, .int .i64 a1_3]] w fun e w' => e = .returned (.bool r) ∧ Below w.heap.size w w':=by
 have hu52:=Try.underlying52
 have HB:=Aside0.mk (Below.refl w.heap.size w)
 have H : (if a0_0 = a1_0 then (if a0_1.toList = a1_1.toList then (if (a0_2 != a1_2) = true then (some false) else (if a0_3 = a1_3 then (some true) else (some false))) else (some false)) else (some false)) = some r:=h
 clear h
 by_cases c3 : a0_0 = a1_0
 ·rw [if_pos c3] at H
  have c3b0 : (a0_0 == a1_0) = true:=beq_iff_eq.mpr c3
  have c3b1 : (a0_0 != a1_0) = false:=bne_eq_false_iff_eq.mpr c3
  clear c3
  by_cases c4 : a0_1.toList = a1_1.toList
  ·rw [if_pos c4] at H
   have c4b0 : (a0_1.toList == a1_1.toList) = true:=beq_iff_eq.mpr c4
   have c4b1 : (a0_1.toList != a1_1.toList) = false:=bne_eq_false_iff_eq.mpr c4
   clear c4
   by_cases c5 : (a0_2 != a1_2) = true
   ·rw [if_pos c5] at H
    have c5b0 : (a0_2 != a1_2) = true:=c5
    (try (have c5b1 : decide (a0_2 = a1_2) = false:=by simpa using c5))
    (try (have c5b2 : (a0_2 == a1_2) = false:=by simpa using c5))
    (try (have c5b3 : ¬ (a0_2 = a1_2):=by simpa using c5))
    clear c5
    obtain rfl:=Option.some.inj H
    go_enter Try.func49,Try.ntmps49
    go_wp2_with (first | ((with_reducible refine gate_dst (N:=2) rfl ?_);refine box_event ?hg (N:=2) ?hd (cs:=#[.int .i64 a0_0, .string a0_1, .bool a0_2, .int .i64 a0_3]) (t:=52) ?hr ?_;(case hd => rfl);(case hg => rfl);(case hr => (go_simp;done));intro gb243 hg w6 hbox hb;have n0_:=Aside0.mk (below_step (by exact HB.out) hb);have n1_:=Aside0.mk (hbox);have n2_:=Aside0.mk ((by rw [hg];exact (below_size (by exact HB.out)) : w.heap.size ≤ gb243));have n3_:=Aside0.mk ((by rw [hg];exact (below_size (by exact HB.out)) : w.heap.size ≤ gb243));clear HB;have HB:=n0_;have BK243:=n1_;have GW243:=n2_;have GE243:=n3_;clear n0_ n1_ n2_ n3_;clear hb hbox hg) | ((with_reducible refine gate_dst (N:=3) rfl ?_);refine box_event ?hg (N:=3) ?hd (cs:=#[.int .i64 a1_0, .string a1_1, .bool a1_2, .int .i64 a1_3]) (t:=52) ?hr ?_;(case hd => rfl);(case hg => rfl);(case hr => (go_simp;done));intro gb244 hg w7 hbox hb;have n0_:=Aside0.mk (blk_below (g:=gb243) (o := .cells #[.int .i64 a0_0, .string a0_1, .bool a0_2, .int .i64 a0_3] 52 (0,0)) (by exact BK243.out) hb);have n1_:=Aside0.mk (below_step (by exact HB.out) hb);have n2_:=Aside0.mk (hbox);have n3_:=Aside0.mk ((by rw [hg];exact (below_size (by exact HB.out)) : w.heap.size ≤ gb244));have n4_:=Aside0.mk ((by rw [hg];exact (below_size (by exact HB.out)) : w.heap.size ≤ gb244));have n5_:=Aside0.mk ((by rw [hg];exact Nat.ne_of_lt (blk_lt (g:=gb243) (o := .cells #[.int .i64 a0_0, .string a0_1, .bool a0_2, .int .i64 a0_3] 52 (0,0)) (by exact BK243.out)) : gb243 ≠ gb244));have n6_:=Aside0.mk ((by rw [hg];exact Nat.ne_of_gt (blk_lt (g:=gb243) (o := .cells #[.int .i64 a0_0, .string a0_1, .bool a0_2, .int .i64 a0_3] 52 (0,0)) (by exact BK243.out)) : gb244 ≠ gb243));clear BK243;clear HB;have BK243:=n0_;have HB:=n1_;have BK244:=n2_;have GW244:=n3_;have GE244:=n4_;have NB243_244:=n5_;have NB244_243:=n6_;clear n0_ n1_ n2_ n3_ n4_ n5_ n6_;clear hb hbox hg;have hnb8:=NB243_244.out;have hnc8:=NB244_243.out;have hcz9_0 : w7.cell? ⟨gb243,0,none⟩ = some (.int .i64 a0_0):=(blk_cell BK243.out 0).trans rfl;have hcz9_1 : w7.cell? ⟨gb243,1,none⟩ = some (.string a0_1):=(blk_cell BK243.out 1).trans rfl;have hcz9_2 : w7.cell? ⟨gb243,2,none⟩ = some (.bool a0_2):=(blk_cell BK243.out 2).trans rfl;have hcz9_3 : w7.cell? ⟨gb243,3,none⟩ = some (.int .i64 a0_3):=(blk_cell BK243.out 3).trans rfl;have hfz9_0:=blk_frozen BK243.out 0;have hfz9_1:=blk_frozen BK243.out 1;have hfz9_2:=blk_frozen BK243.out 2;have hfz9_3:=blk_frozen BK243.out 3;have hcz10_0 : w7.cell? ⟨gb244,0,none⟩ = some (.int .i64 a1_0):=(blk_cell BK244.out 0).trans rfl;have hcz10_1 : w7.cell? ⟨gb244,1,none⟩ = some (.string a1_1):=(blk_cell BK244.out 1).trans rfl;have hcz10_2 : w7.cell? ⟨gb244,2,none⟩ = some (.bool a1_2):=(blk_cell BK244.out 2).trans rfl;have hcz10_3 : w7.cell? ⟨gb244,3,none⟩ = some (.int .i64 a1_3):=(blk_cell BK244.out 3).trans rfl;have hfz10_0:=blk_frozen BK244.out 0;have hfz10_1:=blk_frozen BK244.out 1;have hfz10_2:=blk_frozen BK244.out 2;have hfz10_3:=blk_frozen BK244.out 3))
    go_ret
    exact ⟨by rfl,by exact HB.out⟩
   ·rw [if_neg c5] at H
    have c5b0 : (a0_2 != a1_2) = false:=by simpa using c5
    (try (have c5b1 : decide (a0_2 = a1_2) = true:=by simpa using c5))
    (try (have c5b2 : (a0_2 == a1_2) = true:=by simpa using c5))
    clear c5
    by_cases c11 : a0_3 = a1_3
    ·rw [if_pos c11] at H
     have c11b0 : (a0_3 == a1_3) = true:=beq_iff_eq.mpr c11
     have c11b1 : (a0_3 != a1_3) = false:=bne_eq_false_iff_eq.mpr c11
     clear c11
     obtain rfl:=Option.some.inj H
     go_enter Try.func49,Try.ntmps49
     go_wp2_with (first | ((with_reducible refine gate_dst (N:=2) rfl ?_);refine box_event ?hg (N:=2) ?hd (cs:=#[.int .i64 a0_0, .string a0_1, .bool a0_2, .int .i64 a0_3]) (t:=52) ?hr ?_;(case hd => rfl);(case hg => rfl);(case hr => (go_simp;done));intro gb243 hg w12 hbox hb;have n0_:=Aside0.mk (below_step (by exact HB.out) hb);have n1_:=Aside0.mk (hbox);have n2_:=Aside0.mk ((by rw [hg];exact (below_size (by exact HB.out)) : w.heap.size ≤ gb243));have n3_:=Aside0.mk ((by rw [hg];exact (below_size (by exact HB.out)) : w.heap.size ≤ gb243));clear HB;have HB:=n0_;have BK243:=n1_;have GW243:=n2_;have GE243:=n3_;clear n0_ n1_ n2_ n3_;clear hb hbox hg) | ((with_reducible refine gate_dst (N:=3) rfl ?_);refine box_event ?hg (N:=3) ?hd (cs:=#[.int .i64 a1_0, .string a1_1, .bool a1_2, .int .i64 a1_3]) (t:=52) ?hr ?_;(case hd => rfl);(case hg => rfl);(case hr => (go_simp;done));intro gb244 hg w13 hbox hb;have n0_:=Aside0.mk (blk_below (g:=gb243) (o := .cells #[.int .i64 a0_0, .string a0_1, .bool a0_2, .int .i64 a0_3] 52 (0,0)) (by exact BK243.out) hb);have n1_:=Aside0.mk (below_step (by exact HB.out) hb);have n2_:=Aside0.mk (hbox);have n3_:=Aside0.mk ((by rw [hg];exact (below_size (by exact HB.out)) : w.heap.size ≤ gb244));have n4_:=Aside0.mk ((by rw [hg];exact (below_size (by exact HB.out)) : w.heap.size ≤ gb244));have n5_:=Aside0.mk ((by rw [hg];exact Nat.ne_of_lt (blk_lt (g:=gb243) (o := .cells #[.int .i64 a0_0, .string a0_1, .bool a0_2, .int .i64 a0_3] 52 (0,0)) (by exact BK243.out)) : gb243 ≠ gb244));have n6_:=Aside0.mk ((by rw [hg];exact Nat.ne_of_gt (blk_lt (g:=gb243) (o := .cells #[.int .i64 a0_0, .string a0_1, .bool a0_2, .int .i64 a0_3] 52 (0,0)) (by exact BK243.out)) : gb244 ≠ gb243));clear BK243;clear HB;have BK243:=n0_;have HB:=n1_;have BK244:=n2_;have GW244:=n3_;have GE244:=n4_;have NB243_244:=n5_;have NB244_243:=n6_;clear n0_ n1_ n2_ n3_ n4_ n5_ n6_;clear hb hbox hg;have hnb14:=NB243_244.out;have hnc14:=NB244_243.out;have hcz15_0 : w13.cell? ⟨gb243,0,none⟩ = some (.int .i64 a0_0):=(blk_cell BK243.out 0).trans rfl;have hcz15_1 : w13.cell? ⟨gb243,1,none⟩ = some (.string a0_1):=(blk_cell BK243.out 1).trans rfl;have hcz15_2 : w13.cell? ⟨gb243,2,none⟩ = some (.bool a0_2):=(blk_cell BK243.out 2).trans rfl;have hcz15_3 : w13.cell? ⟨gb243,3,none⟩ = some (.int .i64 a0_3):=(blk_cell BK243.out 3).trans rfl;have hfz15_0:=blk_frozen BK243.out 0;have hfz15_1:=blk_frozen BK243.out 1;have hfz15_2:=blk_frozen BK243.out 2;have hfz15_3:=blk_frozen BK243.out 3;have hcz16_0 : w13.cell? ⟨gb244,0,none⟩ = some (.int .i64 a1_0):=(blk_cell BK244.out 0).trans rfl;have hcz16_1 : w13.cell? ⟨gb244,1,none⟩ = some (.string a1_1):=(blk_cell BK244.out 1).trans rfl;have hcz16_2 : w13.cell? ⟨gb244,2,none⟩ = some (.bool a1_2):=(blk_cell BK244.out 2).trans rfl;have hcz16_3 : w13.cell? ⟨gb244,3,none⟩ = some (.int .i64 a1_3):=(blk_cell BK244.out 3).trans rfl;have hfz16_0:=blk_frozen BK244.out 0;have hfz16_1:=blk_frozen BK244.out 1;have hfz16_2:=blk_frozen BK244.out 2;have hfz16_3:=blk_frozen BK244.out 3))
     go_ret
     exact ⟨by rfl,by exact HB.out⟩
    ·rw [if_neg c11] at H
     have c11b0 : (a0_3 == a1_3) = false:=beq_eq_false_iff_ne.mpr c11
     have c11b1 : (a0_3 != a1_3) = true:=bne_iff_ne.mpr c11
     obtain rfl:=Option.some.inj H
     go_enter Try.func49,Try.ntmps49
     go_wp2_with (first | ((with_reducible refine gate_dst (N:=2) rfl ?_);refine box_event ?hg (N:=2) ?hd (cs:=#[.int .i64 a0_0, .string a0_1, .bool a0_2, .int .i64 a0_3]) (t:=52) ?hr ?_;(case hd => rfl);(case hg => rfl);(case hr => (go_simp;done));intro gb243 hg w17 hbox hb;have n0_:=Aside0.mk (below_step (by exact HB.out) hb);have n1_:=Aside0.mk (hbox);have n2_:=Aside0.mk ((by rw [hg];exact (below_size (by exact HB.out)) : w.heap.size ≤ gb243));have n3_:=Aside0.mk ((by rw [hg];exact (below_size (by exact HB.out)) : w.heap.size ≤ gb243));clear HB;have HB:=n0_;have BK243:=n1_;have GW243:=n2_;have GE243:=n3_;clear n0_ n1_ n2_ n3_;clear hb hbox hg) | ((with_reducible refine gate_dst (N:=3) rfl ?_);refine box_event ?hg (N:=3) ?hd (cs:=#[.int .i64 a1_0, .string a1_1, .bool a1_2, .int .i64 a1_3]) (t:=52) ?hr ?_;(case hd => rfl);(case hg => rfl);(case hr => (go_simp;done));intro gb244 hg w18 hbox hb;have n0_:=Aside0.mk (blk_below (g:=gb243) (o := .cells #[.int .i64 a0_0, .string a0_1, .bool a0_2, .int .i64 a0_3] 52 (0,0)) (by exact BK243.out) hb);have n1_:=Aside0.mk (below_step (by exact HB.out) hb);have n2_:=Aside0.mk (hbox);have n3_:=Aside0.mk ((by rw [hg];exact (below_size (by exact HB.out)) : w.heap.size ≤ gb244));have n4_:=Aside0.mk ((by rw [hg];exact (below_size (by exact HB.out)) : w.heap.size ≤ gb244));have n5_:=Aside0.mk ((by rw [hg];exact Nat.ne_of_lt (blk_lt (g:=gb243) (o := .cells #[.int .i64 a0_0, .string a0_1, .bool a0_2, .int .i64 a0_3] 52 (0,0)) (by exact BK243.out)) : gb243 ≠ gb244));have n6_:=Aside0.mk ((by rw [hg];exact Nat.ne_of_gt (blk_lt (g:=gb243) (o := .cells #[.int .i64 a0_0, .string a0_1, .bool a0_2, .int .i64 a0_3] 52 (0,0)) (by exact BK243.out)) : gb244 ≠ gb243));clear BK243;clear HB;have BK243:=n0_;have HB:=n1_;have BK244:=n2_;have GW244:=n3_;have GE244:=n4_;have NB243_244:=n5_;have NB244_243:=n6_;clear n0_ n1_ n2_ n3_ n4_ n5_ n6_;clear hb hbox hg;have hnb19:=NB243_244.out;have hnc19:=NB244_243.out;have hcz20_0 : w18.cell? ⟨gb243,0,none⟩ = some (.int .i64 a0_0):=(blk_cell BK243.out 0).trans rfl;have hcz20_1 : w18.cell? ⟨gb243,1,none⟩ = some (.string a0_1):=(blk_cell BK243.out 1).trans rfl;have hcz20_2 : w18.cell? ⟨gb243,2,none⟩ = some (.bool a0_2):=(blk_cell BK243.out 2).trans rfl;have hcz20_3 : w18.cell? ⟨gb243,3,none⟩ = some (.int .i64 a0_3):=(blk_cell BK243.out 3).trans rfl;have hfz20_0:=blk_frozen BK243.out 0;have hfz20_1:=blk_frozen BK243.out 1;have hfz20_2:=blk_frozen BK243.out 2;have hfz20_3:=blk_frozen BK243.out 3;have hcz21_0 : w18.cell? ⟨gb244,0,none⟩ = some (.int .i64 a1_0):=(blk_cell BK244.out 0).trans rfl;have hcz21_1 : w18.cell? ⟨gb244,1,none⟩ = some (.string a1_1):=(blk_cell BK244.out 1).trans rfl;have hcz21_2 : w18.cell? ⟨gb244,2,none⟩ = some (.bool a1_2):=(blk_cell BK244.out 2).trans rfl;have hcz21_3 : w18.cell? ⟨gb244,3,none⟩ = some (.int .i64 a1_3):=(blk_cell BK244.out 3).trans rfl;have hfz21_0:=blk_frozen BK244.out 0;have hfz21_1:=blk_frozen BK244.out 1;have hfz21_2:=blk_frozen BK244.out 2;have hfz21_3:=blk_frozen BK244.out 3))
     go_ret
     exact ⟨by rfl,by exact HB.out⟩
  ·rw [if_neg c4] at H
   have c4b0 : (a0_1.toList == a1_1.toList) = false:=beq_eq_false_iff_ne.mpr c4
   have c4b1 : (a0_1.toList != a1_1.toList) = true:=bne_iff_ne.mpr c4
   obtain rfl:=Option.some.inj H
   go_enter Try.func49,Try.ntmps49
   go_wp2_with (first | ((with_reducible refine gate_dst (N:=2) rfl ?_);refine box_event ?hg (N:=2) ?hd (cs:=#[.int .i64 a0_0, .string a0_1, .bool a0_2, .int .i64 a0_3]) (t:=52) ?hr ?_;(case hd => rfl);(case hg => rfl);(case hr => (go_simp;done));intro gb243 hg w22 hbox hb;have n0_:=Aside0.mk (below_step (by exact HB.out) hb);have n1_:=Aside0.mk (hbox);have n2_:=Aside0.mk ((by rw [hg];exact (below_size (by exact HB.out)) : w.heap.size ≤ gb243));have n3_:=Aside0.mk ((by rw [hg];exact (below_size (by exact HB.out)) : w.heap.size ≤ gb243));clear HB;have HB:=n0_;have BK243:=n1_;have GW243:=n2_;have GE243:=n3_;clear n0_ n1_ n2_ n3_;clear hb hbox hg) | ((with_reducible refine gate_dst (N:=3) rfl ?_);refine box_event ?hg (N:=3) ?hd (cs:=#[.int .i64 a1_0, .string a1_1, .bool a1_2, .int .i64 a1_3]) (t:=52) ?hr ?_;(case hd => rfl);(case hg => rfl);(case hr => (go_simp;done));intro gb244 hg w23 hbox hb;have n0_:=Aside0.mk (blk_below (g:=gb243) (o := .cells #[.int .i64 a0_0, .string a0_1, .bool a0_2, .int .i64 a0_3] 52 (0,0)) (by exact BK243.out) hb);have n1_:=Aside0.mk (below_step (by exact HB.out) hb);have n2_:=Aside0.mk (hbox);have n3_:=Aside0.mk ((by rw [hg];exact (below_size (by exact HB.out)) : w.heap.size ≤ gb244));have n4_:=Aside0.mk ((by rw [hg];exact (below_size (by exact HB.out)) : w.heap.size ≤ gb244));have n5_:=Aside0.mk ((by rw [hg];exact Nat.ne_of_lt (blk_lt (g:=gb243) (o := .cells #[.int .i64 a0_0, .string a0_1, .bool a0_2, .int .i64 a0_3] 52 (0,0)) (by exact BK243.out)) : gb243 ≠ gb244));have n6_:=Aside0.mk ((by rw [hg];exact Nat.ne_of_gt (blk_lt (g:=gb243) (o := .cells #[.int .i64 a0_0, .string a0_1, .bool a0_2, .int .i64 a0_3] 52 (0,0)) (by exact BK243.out)) : gb244 ≠ gb243));clear BK243;clear HB;have BK243:=n0_;have HB:=n1_;have BK244:=n2_;have GW244:=n3_;have GE244:=n4_;have NB243_244:=n5_;have NB244_243:=n6_;clear n0_ n1_ n2_ n3_ n4_ n5_ n6_;clear hb hbox hg;have hnb24:=NB243_244.out;have hnc24:=NB244_243.out;have hcz25_0 : w23.cell? ⟨gb243,0,none⟩ = some (.int .i64 a0_0):=(blk_cell BK243.out 0).trans rfl;have hcz25_1 : w23.cell? ⟨gb243,1,none⟩ = some (.string a0_1):=(blk_cell BK243.out 1).trans rfl;have hcz25_2 : w23.cell? ⟨gb243,2,none⟩ = some (.bool a0_2):=(blk_cell BK243.out 2).trans rfl;have hcz25_3 : w23.cell? ⟨gb243,3,none⟩ = some (.int .i64 a0_3):=(blk_cell BK243.out 3).trans rfl;have hfz25_0:=blk_frozen BK243.out 0;have hfz25_1:=blk_frozen BK243.out 1;have hfz25_2:=blk_frozen BK243.out 2;have hfz25_3:=blk_frozen BK243.out 3;have hcz26_0 : w23.cell? ⟨gb244,0,none⟩ = some (.int .i64 a1_0):=(blk_cell BK244.out 0).trans rfl;have hcz26_1 : w23.cell? ⟨gb244,1,none⟩ = some (.string a1_1):=(blk_cell BK244.out 1).trans rfl;have hcz26_2 : w23.cell? ⟨gb244,2,none⟩ = some (.bool a1_2):=(blk_cell BK244.out 2).trans rfl;have hcz26_3 : w23.cell? ⟨gb244,3,none⟩ = some (.int .i64 a1_3):=(blk_cell BK244.out 3).trans rfl;have hfz26_0:=blk_frozen BK244.out 0;have hfz26_1:=blk_frozen BK244.out 1;have hfz26_2:=blk_frozen BK244.out 2;have hfz26_3:=blk_frozen BK244.out 3))
   go_ret
   exact ⟨by rfl,by exact HB.out⟩
 ·rw [if_neg c3] at H
  have c3b0 : (a0_0 == a1_0) = false:=beq_eq_false_iff_ne.mpr c3
  have c3b1 : (a0_0 != a1_0) = true:=bne_iff_ne.mpr c3
  obtain rfl:=Option.some.inj H
  go_enter Try.func49,Try.ntmps49
  go_wp2_with (first | ((with_reducible refine gate_dst (N:=2) rfl ?_);refine box_event ?hg (N:=2) ?hd (cs:=#[.int .i64 a0_0, .string a0_1, .bool a0_2, .int .i64 a0_3]) (t:=52) ?hr ?_;(case hd => rfl);(case hg => rfl);(case hr => (go_simp;done));intro gb243 hg w27 hbox hb;have n0_:=Aside0.mk (below_step (by exact HB.out) hb);have n1_:=Aside0.mk (hbox);have n2_:=Aside0.mk ((by rw [hg];exact (below_size (by exact HB.out)) : w.heap.size ≤ gb243));have n3_:=Aside0.mk ((by rw [hg];exact (below_size (by exact HB.out)) : w.heap.size ≤ gb243));clear HB;have HB:=n0_;have BK243:=n1_;have GW243:=n2_;have GE243:=n3_;clear n0_ n1_ n2_ n3_;clear hb hbox hg) | ((with_reducible refine gate_dst (N:=3) rfl ?_);refine box_event ?hg (N:=3) ?hd (cs:=#[.int .i64 a1_0, .string a1_1, .bool a1_2, .int .i64 a1_3]) (t:=52) ?hr ?_;(case hd => rfl);(case hg => rfl);(case hr => (go_simp;done));intro gb244 hg w28 hbox hb;have n0_:=Aside0.mk (blk_below (g:=gb243) (o := .cells #[.int .i64 a0_0, .string a0_1, .bool a0_2, .int .i64 a0_3] 52 (0,0)) (by exact BK243.out) hb);have n1_:=Aside0.mk (below_step (by exact HB.out) hb);have n2_:=Aside0.mk (hbox);have n3_:=Aside0.mk ((by rw [hg];exact (below_size (by exact HB.out)) : w.heap.size ≤ gb244));have n4_:=Aside0.mk ((by rw [hg];exact (below_size (by exact HB.out)) : w.heap.size ≤ gb244));have n5_:=Aside0.mk ((by rw [hg];exact Nat.ne_of_lt (blk_lt (g:=gb243) (o := .cells #[.int .i64 a0_0, .string a0_1, .bool a0_2, .int .i64 a0_3] 52 (0,0)) (by exact BK243.out)) : gb243 ≠ gb244));have n6_:=Aside0.mk ((by rw [hg];exact Nat.ne_of_gt (blk_lt (g:=gb243) (o := .cells #[.int .i64 a0_0, .string a0_1, .bool a0_2, .int .i64 a0_3] 52 (0,0)) (by exact BK243.out)) : gb244 ≠ gb243));clear BK243;clear HB;have BK243:=n0_;have HB:=n1_;have BK244:=n2_;have GW244:=n3_;have GE244:=n4_;have NB243_244:=n5_;have NB244_243:=n6_;clear n0_ n1_ n2_ n3_ n4_ n5_ n6_;clear hb hbox hg;have hnb29:=NB243_244.out;have hnc29:=NB244_243.out;have hcz30_0 : w28.cell? ⟨gb243,0,none⟩ = some (.int .i64 a0_0):=(blk_cell BK243.out 0).trans rfl;have hcz30_1 : w28.cell? ⟨gb243,1,none⟩ = some (.string a0_1):=(blk_cell BK243.out 1).trans rfl;have hcz30_2 : w28.cell? ⟨gb243,2,none⟩ = some (.bool a0_2):=(blk_cell BK243.out 2).trans rfl;have hcz30_3 : w28.cell? ⟨gb243,3,none⟩ = some (.int .i64 a0_3):=(blk_cell BK243.out 3).trans rfl;have hfz30_0:=blk_frozen BK243.out 0;have hfz30_1:=blk_frozen BK243.out 1;have hfz30_2:=blk_frozen BK243.out 2;have hfz30_3:=blk_frozen BK243.out 3;have hcz31_0 : w28.cell? ⟨gb244,0,none⟩ = some (.int .i64 a1_0):=(blk_cell BK244.out 0).trans rfl;have hcz31_1 : w28.cell? ⟨gb244,1,none⟩ = some (.string a1_1):=(blk_cell BK244.out 1).trans rfl;have hcz31_2 : w28.cell? ⟨gb244,2,none⟩ = some (.bool a1_2):=(blk_cell BK244.out 2).trans rfl;have hcz31_3 : w28.cell? ⟨gb244,3,none⟩ = some (.int .i64 a1_3):=(blk_cell BK244.out 3).trans rfl;have hfz31_0:=blk_frozen BK244.out 0;have hfz31_1:=blk_frozen BK244.out 1;have hfz31_2:=blk_frozen BK244.out 2;have hfz31_3:=blk_frozen BK244.out 3))
  go_ret
  exact ⟨by rfl,by exact HB.out⟩

end Go.Proofs.Yteebkbikpamkmaa.PFnExactHeldContainers
