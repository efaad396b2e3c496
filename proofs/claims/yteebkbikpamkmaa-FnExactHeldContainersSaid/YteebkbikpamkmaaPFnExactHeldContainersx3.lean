-- Written by a program of this session, over the kit's print (wip/xprint.py)
import Derived.Test.YteebkbikpamkmaaPFnExactHeldContainersx0
import Derived.Test.YteebkbikpamkmaaPFnExactHeldContainersx1
import Derived.Test.YteebkbikpamkmaaPFnExactHeldContainersx2
namespace Go.Proofs.Yteebkbikpamkmaa.PFnExactHeldContainers
open Go.RowKit Go.Proofs.YteebkbikpamkmaaW.PrintWords Go.Proofs.YteebkbikpamkmaaW.PrintLast Go.Proofs.YteebkbikpamkmaaW.PrintMore
attribute [local go_sem] max2_int min2_int max_two min_two max_three min_three max_four min_four   -- for this text's walks alone
set_option linter.unusedVariables false
set_option linter.unusedSimpArgs false

/-! ### impl_IsValidFile: function 11 -/
def impl_IsValidFile.f (k : Nat) (l0 : List (S52)) : Option (Bool):=(impl_conflictIn.f k l0).bind fun t114 => (some (t114 == (l0.length : Int)))
theorem impl_IsValidFile.mono : ∀ a0 k,LeO (impl_IsValidFile.f k a0) (impl_IsValidFile.f (k + 1) a0):=by
 intro a0 k
 unfold impl_IsValidFile.f
 repeat' first
   | (with_reducible exact impl_conflictIn.mono _ _)
   | (with_reducible exact LeO.refl _)
   | (with_reducible exact LeO.none _)
   | (with_reducible refine LeO.ite ?_ ?_)
   | (with_reducible refine LeO.bind ?_ (fun _ => ?_))
   | exact impl_conflictIn.mono _ _
   | exact LeO.none _
   | refine LeO.ite ?_ ?_
   | refine LeO.bind ?_ (fun _ => ?_)
set_option maxHeartbeats 8000000 in
set_option maxRecDepth 100000 in
theorem impl_IsValidFile.calls (k : Nat) (A0 : Option Addr) (c0 : Nat) (l0 : List (S52)) (r : Bool) (w : World) (hr0 : Kd.C k52 w A0 l0.length l0) (hc0 : l0.length ≤ c0) (h : impl_IsValidFile.f k l0 = some r) :
  Calls Try.prog 11 #[.slice A0 l0.length c0] w fun e w' => e = .returned (.bool r) ∧ Below w.heap.size w w':=by
 have HR0:=Aside0.mk hr0
 have HC0:=Aside0.mk hc0
 clear hr0 hc0
 have HB:=Aside0.mk (Below.refl w.heap.size w)
 have H : ((impl_conflictIn.f k l0).bind fun t114 => (some (t114 == (l0.length : Int)))) = some r:=h
 clear h
 replace H:=Option.bind_eq_some_iff.mp H
 obtain ⟨t114,A20,H⟩ := H
 replace H : (some (t114 == (l0.length : Int))) = some r:=H
 have A2:=Aside0.mk A20
 clear A20
 obtain rfl:=Option.some.inj H
 go_enter Try.func11,Try.ntmps11
 go_wp2_with (((with_reducible refine gate_callee (f:=36) rfl ?_);refine goesL_ (some 4) rfl rfl Try.func36 (by kernel_rfl) rfl #[.slice A0 l0.length c0] rfl (by (try simp only [List.map_toArray,List.map_cons,List.map_nil]);rfl) ?_;(with_reducible refine (impl_conflictIn.calls k _ _ l0 t114 _ ?side1 ?side2 A2.out).mono ?_);(case side1 => repeat (exact HR0.out));(case side2 => exact HC0.out);rintro e w3 ⟨rfl,hb⟩;refine ⟨_,rfl, ?_⟩;have n0_:=Aside0.mk (below_step (by exact HB.out) hb);clear HB;have HB:=n0_;clear n0_;(try clear hb)))
 go_ret
 exact ⟨by rfl,by exact HB.out⟩

/-! ### impl_holdsOn: function 29 -/
mutual
def impl_holdsOn.l0 : Nat → ByteArray → Int → Int → List (S52) → Int → Int → Option (Int)
 | 0,_,_,_,_,_,_ => none
 | k + 1,x1,x2,x7,x10,x11,x12 => if x12 < x11 then (if 0 ≤ x12 then (if x12 < (x10.length : Int) then (if ((rd_T52 x10 x12).f1).toList = x1.toList then (impl_holdsOn.j1 k x1 x2 x7 x10 x11 x12 (decide (((rd_T52 x10 x12).f0) > x2)) ((rd_T52 x10 x12).f0) ((rd_T52 x10 x12).f1) ((rd_T52 x10 x12).f2) ((rd_T52 x10 x12).f3)) else (impl_holdsOn.j1 k x1 x2 x7 x10 x11 x12 true ((rd_T52 x10 x12).f0) ((rd_T52 x10 x12).f1) ((rd_T52 x10 x12).f2) ((rd_T52 x10 x12).f3))) else (none)) else (none)) else (some x7)
def impl_holdsOn.j1 : Nat → ByteArray → Int → Int → List (S52) → Int → Int → Bool → Int → ByteArray → Bool → Int → Option (Int)
 | 0,_,_,_,_,_,_,_,_,_,_,_ => none
 | k + 1,x1,x2,x7,x10,x11,x12,x20,x117000,x117001,x117002,x117003 => if x20 = true then (impl_holdsOn.l0 k x1 x2 x7 x10 x11 (wrap64 (x12 + 1))) else (if x117002 = true then (impl_holdsOn.l0 k x1 x2 (Go.bits .or .i64 x7 x117003) x10 x11 (wrap64 (x12 + 1))) else (impl_holdsOn.l0 k x1 x2 (Go.bits .andNot .i64 x7 x117003) x10 x11 (wrap64 (x12 + 1))))
end
def impl_holdsOn.f (k : Nat) (l0 : List (S52)) (a1 : ByteArray) (a2 : Int) : Option (Int):=impl_holdsOn.l0 k a1 a2 0 l0 (l0.length : Int) 0
theorem impl_holdsOn.mono_l : ∀ k,(∀ y0 y1 y2 y3 y4 y5,LeO (impl_holdsOn.l0 k y0 y1 y2 y3 y4 y5) (impl_holdsOn.l0 (k + 1) y0 y1 y2 y3 y4 y5)) ∧ (∀ y0 y1 y2 y3 y4 y5 y6 y7 y8 y9 y10,LeO (impl_holdsOn.j1 k y0 y1 y2 y3 y4 y5 y6 y7 y8 y9 y10) (impl_holdsOn.j1 (k + 1) y0 y1 y2 y3 y4 y5 y6 y7 y8 y9 y10))
 | 0 => ⟨fun _ _ _ _ _ _ r h => by simp [impl_holdsOn.l0] at h,fun _ _ _ _ _ _ _ _ _ _ _ r h => by simp [impl_holdsOn.j1] at h⟩
 | k + 1 => by
  obtain ⟨ih0,ih1⟩ := impl_holdsOn.mono_l k
  refine ⟨?_, ?_⟩
  ·intro y0 y1 y2 y3 y4 y5
   unfold impl_holdsOn.l0
   repeat' first
   | (with_reducible exact ih0 _ _ _ _ _ _)
   | (with_reducible exact ih1 _ _ _ _ _ _ _ _ _ _ _)
   | (with_reducible exact LeO.refl _)
   | (with_reducible exact LeO.none _)
   | (with_reducible refine LeO.ite ?_ ?_)
   | (with_reducible refine LeO.bind ?_ (fun _ => ?_))
   | exact ih0 _ _ _ _ _ _
   | exact ih1 _ _ _ _ _ _ _ _ _ _ _
   | exact LeO.none _
   | refine LeO.ite ?_ ?_
   | refine LeO.bind ?_ (fun _ => ?_)
  ·intro y0 y1 y2 y3 y4 y5 y6 y7 y8 y9 y10
   unfold impl_holdsOn.j1
   repeat' first
   | (with_reducible exact ih0 _ _ _ _ _ _)
   | (with_reducible exact ih1 _ _ _ _ _ _ _ _ _ _ _)
   | (with_reducible exact LeO.refl _)
   | (with_reducible exact LeO.none _)
   | (with_reducible refine LeO.ite ?_ ?_)
   | (with_reducible refine LeO.bind ?_ (fun _ => ?_))
   | exact ih0 _ _ _ _ _ _
   | exact ih1 _ _ _ _ _ _ _ _ _ _ _
   | exact LeO.none _
   | refine LeO.ite ?_ ?_
   | refine LeO.bind ?_ (fun _ => ?_)
theorem impl_holdsOn.mono : ∀ a0 a1 a2 k,LeO (impl_holdsOn.f k a0 a1 a2) (impl_holdsOn.f (k + 1) a0 a1 a2):=by
 intro a0 a1 a2 k
 obtain ⟨ih0,ih1⟩ := impl_holdsOn.mono_l k
 unfold impl_holdsOn.f
 repeat' first
   | (with_reducible exact ih0 _ _ _ _ _ _)
   | (with_reducible exact ih1 _ _ _ _ _ _ _ _ _ _ _)
   | (with_reducible exact LeO.refl _)
   | (with_reducible exact LeO.none _)
   | (with_reducible refine LeO.ite ?_ ?_)
   | (with_reducible refine LeO.bind ?_ (fun _ => ?_))
   | exact ih0 _ _ _ _ _ _
   | exact ih1 _ _ _ _ _ _ _ _ _ _ _
   | exact LeO.none _
   | refine LeO.ite ?_ ?_
   | refine LeO.bind ?_ (fun _ => ?_)
set_option maxHeartbeats 8000000 in
set_option maxRecDepth 100000 in
theorem impl_holdsOn.calls (k : Nat) (A0 : Option Addr) (c0 : Nat) (l0 : List (S52)) (a1 : ByteArray) (a2 : Int) (r : Int) (w : World) (hr0 : Kd.C k52 w A0 l0.length l0) (hc0 : l0.length ≤ c0) (h : impl_holdsOn.f k l0 a1 a2 = some r) :
  Calls Try.prog 29 #[.slice A0 l0.length c0, .string a1, .int .i64 a2] w fun e w' => e = .returned (.int .i64 r) ∧ Below w.heap.size w w':=by
 have hu52:=Try.underlying52
 have HR0:=Aside0.mk hr0
 have HC0:=Aside0.mk hc0
 clear hr0 hc0
 have HB:=Aside0.mk (Below.refl w.heap.size w)
 have H : (impl_holdsOn.l0 k a1 a2 0 l0 (l0.length : Int) 0) = some r:=h
 clear h
 have H':=Aside0.mk H
 clear H
 go_enter Try.func29,Try.ntmps29
 go_wp2
 go_loopg [7,12] k (fun kq v7 v12 w' => ∃ (x7_1 : Int) (x12_1 : Int),v7 = .int .i64 x7_1 ∧ v12 = .int .i64 x12_1 ∧ Aside0 (impl_holdsOn.l0 kq a1 a2 x7_1 l0 (l0.length : Int) x12_1 = some r) ∧ Aside0 (kq ≤ k) ∧ Aside0 (Below w.heap.size w w'))
 case atStart => exact ⟨(0),(0),(by rfl),(by rfl),H',⟨Nat.le_refl _⟩,⟨by exact HB.out⟩⟩
 case round =>
  clear H'
  try clear c2
  try clear p2
  obtain ⟨x7_1,x12_1,rfl,rfl,HA,HK1,HB⟩ := hrel
  cases gk with
  | zero => exact absurd HA.out (by simp [impl_holdsOn.l0])
  | succ k1 =>
   have H:=HA.out
   clear HA
   simp only [impl_holdsOn.l0] at H
   by_cases c4 : x12_1 < (l0.length : Int)
   ·rw [if_pos c4] at H
    have c4b0 : decide (x12_1 < (l0.length : Int)) = true:=decide_eq_true c4
    clear c4
    by_cases c5 : 0 ≤ x12_1
    ·rw [if_pos c5] at H
     have c5b0 : decide (0 ≤ x12_1) = true:=decide_eq_true c5
     clear c5
     by_cases c6 : x12_1 < (l0.length : Int)
     ·rw [if_pos c6] at H
      have c6b0 : decide (x12_1 < (l0.length : Int)) = true:=decide_eq_true c6
      clear c6
      have HC7:=Aside0.mk H
      clear H
      have p115 : 0 ≤ (x12_1 : Int):=of_decide_eq_true (by (with_reducible assumption))
      have q115 : x12_1 < (l0.length : Int):=of_decide_eq_true (by (with_reducible assumption))
      obtain ⟨ad115,e115,hx115_0,hx115_1,hx115_2,hx115_3⟩ := at_T52 HR0.out x12_1 p115 q115
      cases e115
      replace hx115_0:=(HB.out.cell (World.block_lt_of_cell? w _ hx115_0)).trans hx115_0
      replace hx115_1:=(HB.out.cell (World.block_lt_of_cell? w _ hx115_1)).trans hx115_1
      replace hx115_2:=(HB.out.cell (World.block_lt_of_cell? w _ hx115_2)).trans hx115_2
      replace hx115_3:=(HB.out.cell (World.block_lt_of_cell? w _ hx115_3)).trans hx115_3
      replace p115:=eq_true p115
      replace q115:=eq_true q115
      go_upto_region 6 with (((with_reducible refine gate_dst (N:=9) rfl ?_);refine box_event ?hg (N:=9) ?hd (cs:=#[.int .i64 0, .string (⟨#[]⟩ : ByteArray), .bool false, .int .i64 0]) (t:=52) ?hr ?_;(case hd => rfl);(case hg => rfl);(case hr => (go_simp;done));intro gb116 hg w8 hbox hb;have n0_:=Aside0.mk (below_step (by exact HB.out) hb);have n1_:=Aside0.mk (hbox);have n2_:=Aside0.mk ((by rw [hg];exact (below_size (by exact HB.out)) : w.heap.size ≤ gb116));have n3_:=Aside0.mk ((by rw [hg];exact (below_size (by exact HB.out)) : w.heap.size ≤ gb116));clear HB;have HB:=n0_;have BK116:=n1_;have GW116:=n2_;have GE116:=n3_;clear n0_ n1_ n2_ n3_;clear hb hbox hg;have hcz9_0 : w8.cell? ⟨gb116,0,none⟩ = some (.int .i64 0):=(blk_cell BK116.out 0).trans rfl;have hcz9_1 : w8.cell? ⟨gb116,1,none⟩ = some (.string (⟨#[]⟩ : ByteArray)):=(blk_cell BK116.out 1).trans rfl;have hcz9_2 : w8.cell? ⟨gb116,2,none⟩ = some (.bool false):=(blk_cell BK116.out 2).trans rfl;have hcz9_3 : w8.cell? ⟨gb116,3,none⟩ = some (.int .i64 0):=(blk_cell BK116.out 3).trans rfl;have hfz9_0:=blk_frozen BK116.out 0;have hfz9_1:=blk_frozen BK116.out 1;have hfz9_2:=blk_frozen BK116.out 2;have hfz9_3:=blk_frozen BK116.out 3))
      (skip)
      go_cut [20] (fun v20 wc => ∃ (kq : Nat) (x20_6 : Bool),v20 = .bool x20_6 ∧ Aside0 (impl_holdsOn.j1 kq a1 a2 x7_1 l0 (l0.length : Int) x12_1 x20_6 ((rd_T52 l0 x12_1).f0) ((rd_T52 l0 x12_1).f1) ((rd_T52 l0 x12_1).f2) ((rd_T52 l0 x12_1).f3) = some r) ∧ Aside0 (kq ≤ k1) ∧ Aside0 (wc.heap[gb116]? = some (.cells #[.int .i64 ((rd_T52 l0 x12_1).f0), .string ((rd_T52 l0 x12_1).f1), .bool ((rd_T52 l0 x12_1).f2), .int .i64 ((rd_T52 l0 x12_1).f3)] 52 (0,0))) ∧ Aside0 (Below w.heap.size w wc))
      case first =>
       have H:=HC7.out
       clear HC7
       by_cases c10 : ((rd_T52 l0 x12_1).f1).toList = a1.toList
       ·rw [if_pos c10] at H
        have c10b0 : (((rd_T52 l0 x12_1).f1).toList == a1.toList) = true:=beq_iff_eq.mpr c10
        have c10b1 : (((rd_T52 l0 x12_1).f1).toList != a1.toList) = false:=bne_eq_false_iff_eq.mpr c10
        clear c10
        (skip)
        have H':=Aside0.mk H
        clear H
        have hcz11_0 : w8.cell? ⟨gb116,0,none⟩ = some (.int .i64 0):=(blk_cell BK116.out 0).trans rfl
        have hcz11_1 : w8.cell? ⟨gb116,1,none⟩ = some (.string (⟨#[]⟩ : ByteArray)):=(blk_cell BK116.out 1).trans rfl
        have hcz11_2 : w8.cell? ⟨gb116,2,none⟩ = some (.bool false):=(blk_cell BK116.out 2).trans rfl
        have hcz11_3 : w8.cell? ⟨gb116,3,none⟩ = some (.int .i64 0):=(blk_cell BK116.out 3).trans rfl
        have hfz11_0:=blk_frozen BK116.out 0
        have hfz11_1:=blk_frozen BK116.out 1
        have hfz11_2:=blk_frozen BK116.out 2
        have hfz11_3:=blk_frozen BK116.out 3
        go_wp2
        go_meet
        case rel => exact ⟨_,(decide (((rd_T52 l0 x12_1).f0) > a2)),(by rfl),H',⟨by have:=HK1.out;omega⟩,⟨by refine blk_put (cs:=#[.int .i64 ((rd_T52 l0 x12_1).f0), .string ((rd_T52 l0 x12_1).f1), .bool ((rd_T52 l0 x12_1).f2), .int .i64 0]) ?_ 3 _ rfl;refine blk_put (cs:=#[.int .i64 ((rd_T52 l0 x12_1).f0), .string ((rd_T52 l0 x12_1).f1), .bool false, .int .i64 0]) ?_ 2 _ rfl;refine blk_put (cs:=#[.int .i64 ((rd_T52 l0 x12_1).f0), .string (⟨#[]⟩ : ByteArray), .bool false, .int .i64 0]) ?_ 1 _ rfl;refine blk_put (cs:=#[.int .i64 0, .string (⟨#[]⟩ : ByteArray), .bool false, .int .i64 0]) ?_ 0 _ rfl;exact BK116.out⟩,⟨by repeat ((with_reducible first | exact HB.out | refine below_set ?_ GE116.out))⟩⟩
       ·rw [if_neg c10] at H
        have c10b0 : (((rd_T52 l0 x12_1).f1).toList == a1.toList) = false:=beq_eq_false_iff_ne.mpr c10
        have c10b1 : (((rd_T52 l0 x12_1).f1).toList != a1.toList) = true:=bne_iff_ne.mpr c10
        (skip)
        have H':=Aside0.mk H
        clear H
        have hcz12_0 : w8.cell? ⟨gb116,0,none⟩ = some (.int .i64 0):=(blk_cell BK116.out 0).trans rfl
        have hcz12_1 : w8.cell? ⟨gb116,1,none⟩ = some (.string (⟨#[]⟩ : ByteArray)):=(blk_cell BK116.out 1).trans rfl
        have hcz12_2 : w8.cell? ⟨gb116,2,none⟩ = some (.bool false):=(blk_cell BK116.out 2).trans rfl
        have hcz12_3 : w8.cell? ⟨gb116,3,none⟩ = some (.int .i64 0):=(blk_cell BK116.out 3).trans rfl
        have hfz12_0:=blk_frozen BK116.out 0
        have hfz12_1:=blk_frozen BK116.out 1
        have hfz12_2:=blk_frozen BK116.out 2
        have hfz12_3:=blk_frozen BK116.out 3
        go_wp2
        go_meet
        case rel => exact ⟨_,(true),(by rfl),H',⟨by have:=HK1.out;omega⟩,⟨by refine blk_put (cs:=#[.int .i64 ((rd_T52 l0 x12_1).f0), .string ((rd_T52 l0 x12_1).f1), .bool ((rd_T52 l0 x12_1).f2), .int .i64 0]) ?_ 3 _ rfl;refine blk_put (cs:=#[.int .i64 ((rd_T52 l0 x12_1).f0), .string ((rd_T52 l0 x12_1).f1), .bool false, .int .i64 0]) ?_ 2 _ rfl;refine blk_put (cs:=#[.int .i64 ((rd_T52 l0 x12_1).f0), .string (⟨#[]⟩ : ByteArray), .bool false, .int .i64 0]) ?_ 1 _ rfl;refine blk_put (cs:=#[.int .i64 0, .string (⟨#[]⟩ : ByteArray), .bool false, .int .i64 0]) ?_ 0 _ rfl;exact BK116.out⟩,⟨by repeat ((with_reducible first | exact HB.out | refine below_set ?_ GE116.out))⟩⟩
      case rest =>
       clear HC7
       try clear c1
       try clear p1
       try clear q1
       try clear hx1
       try clear c2
       try clear p2
       try clear c4
       try clear c4b0
       try clear c5
       try clear c5b0
       try clear c6
       try clear c6b0
       try clear c10
       try clear c10b0
       try clear c10b1
       try clear p11
       try clear q11
       try clear hx11
       try clear hcz11_0
       try clear hcz11_1
       try clear hcz11_2
       try clear hcz11_3
       try clear hcz12_0
       try clear hcz12_1
       try clear hcz12_2
       try clear hcz12_3
       try clear hcz9_0
       try clear hcz9_1
       try clear hcz9_2
       try clear hcz9_3
       try clear hfz11_0
       try clear hfz11_1
       try clear hfz11_2
       try clear hfz11_3
       try clear hfz12_0
       try clear hfz12_1
       try clear hfz12_2
       try clear hfz12_3
       try clear hfz9_0
       try clear hfz9_1
       try clear hfz9_2
       try clear hfz9_3
       try clear hx115_0
       try clear hx115_1
       try clear hx115_2
       try clear hx115_3
       try clear p115
       try clear p2
       try clear q115
       obtain ⟨kq,x20_6,rfl,HA,HJ6,BK116,HB⟩ := hcut
       cases kq with
       | zero => exact absurd HA.out (by simp [impl_holdsOn.j1])
       | succ kj6 =>
        have H:=HA.out
        clear HA
        simp only [impl_holdsOn.j1] at H
        by_cases c13 : x20_6 = true
        ·subst c13
         have H1 : (impl_holdsOn.l0 kj6 a1 a2 x7_1 l0 (l0.length : Int) (wrap64 (x12_1 + 1))) = some r:=by rw [if_pos rfl] at H;exact H
         clear H
         have H:=H1
         clear H1
         have H':=Aside0.mk H
         clear H
         go_wp2
         go_roundg kj6
         case measure => have:=HK1.out;have:=HJ6.out;omega
         case rel => exact ⟨(x7_1),(wrap64 (x12_1 + 1)),(by rfl),(by rfl),H',⟨by have:=HK1.out;have:=HJ6.out;omega⟩,⟨by exact HB.out⟩⟩
        ·replace c13:=Bool.eq_false_iff.mpr c13
         subst c13
         have H1 : (if ((rd_T52 l0 x12_1).f2) = true then (impl_holdsOn.l0 kj6 a1 a2 (Go.bits .or .i64 x7_1 ((rd_T52 l0 x12_1).f3)) l0 (l0.length : Int) (wrap64 (x12_1 + 1))) else (impl_holdsOn.l0 kj6 a1 a2 (Go.bits .andNot .i64 x7_1 ((rd_T52 l0 x12_1).f3)) l0 (l0.length : Int) (wrap64 (x12_1 + 1)))) = some r:=by rw [if_neg (show ¬ (false = true) by decide)] at H;exact H
         clear H
         have H:=H1
         clear H1
         by_cases c14 : ((rd_T52 l0 x12_1).f2) = true
         ·rw [if_pos c14] at H
          have c14b0 : ((rd_T52 l0 x12_1).f2) = true:=c14
          clear c14
          have H':=Aside0.mk H
          clear H
          have hcz15_0 : wc.cell? ⟨gb116,0,none⟩ = some (.int .i64 ((rd_T52 l0 x12_1).f0)):=(blk_cell BK116.out 0).trans rfl
          have hcz15_1 : wc.cell? ⟨gb116,1,none⟩ = some (.string ((rd_T52 l0 x12_1).f1)):=(blk_cell BK116.out 1).trans rfl
          have hcz15_2 : wc.cell? ⟨gb116,2,none⟩ = some (.bool ((rd_T52 l0 x12_1).f2)):=(blk_cell BK116.out 2).trans rfl
          have hcz15_3 : wc.cell? ⟨gb116,3,none⟩ = some (.int .i64 ((rd_T52 l0 x12_1).f3)):=(blk_cell BK116.out 3).trans rfl
          have hfz15_0:=blk_frozen BK116.out 0
          have hfz15_1:=blk_frozen BK116.out 1
          have hfz15_2:=blk_frozen BK116.out 2
          have hfz15_3:=blk_frozen BK116.out 3
          go_wp2
          go_roundg kj6
          case measure => have:=HK1.out;have:=HJ6.out;omega
          case rel => exact ⟨(Go.bits .or .i64 x7_1 ((rd_T52 l0 x12_1).f3)),(wrap64 (x12_1 + 1)),(by rfl),(by rfl),H',⟨by have:=HK1.out;have:=HJ6.out;omega⟩,⟨by exact HB.out⟩⟩
         ·rw [if_neg c14] at H
          have c14b0 : ((rd_T52 l0 x12_1).f2) = false:=by simpa using c14
          clear c14
          have H':=Aside0.mk H
          clear H
          have hcz16_0 : wc.cell? ⟨gb116,0,none⟩ = some (.int .i64 ((rd_T52 l0 x12_1).f0)):=(blk_cell BK116.out 0).trans rfl
          have hcz16_1 : wc.cell? ⟨gb116,1,none⟩ = some (.string ((rd_T52 l0 x12_1).f1)):=(blk_cell BK116.out 1).trans rfl
          have hcz16_2 : wc.cell? ⟨gb116,2,none⟩ = some (.bool ((rd_T52 l0 x12_1).f2)):=(blk_cell BK116.out 2).trans rfl
          have hcz16_3 : wc.cell? ⟨gb116,3,none⟩ = some (.int .i64 ((rd_T52 l0 x12_1).f3)):=(blk_cell BK116.out 3).trans rfl
          have hfz16_0:=blk_frozen BK116.out 0
          have hfz16_1:=blk_frozen BK116.out 1
          have hfz16_2:=blk_frozen BK116.out 2
          have hfz16_3:=blk_frozen BK116.out 3
          go_wp2
          go_roundg kj6
          case measure => have:=HK1.out;have:=HJ6.out;omega
          case rel => exact ⟨(Go.bits .andNot .i64 x7_1 ((rd_T52 l0 x12_1).f3)),(wrap64 (x12_1 + 1)),(by rfl),(by rfl),H',⟨by have:=HK1.out;have:=HJ6.out;omega⟩,⟨by exact HB.out⟩⟩
     ·rw [if_neg c6] at H
      exact absurd H (by simp)
    ·rw [if_neg c5] at H
     exact absurd H (by simp)
   ·rw [if_neg c4] at H
    have c4b0 : decide (x12_1 < (l0.length : Int)) = false:=decide_eq_false c4
    clear c4
    obtain rfl:=Option.some.inj H
    go_wp2
    go_ret
    exact ⟨by rfl,by exact HB.out⟩

/-! ### cmp_isNaN_string: function 83 -/
def cmp_isNaN_string.f (a0 : ByteArray) : Option (Bool):=some (a0.toList != a0.toList)
set_option maxHeartbeats 8000000 in
set_option maxRecDepth 100000 in
theorem cmp_isNaN_string.calls (a0 : ByteArray) (r : Bool) (w : World) (h : cmp_isNaN_string.f a0 = some r) :
  Calls Try.prog 83 #[.string a0] w fun e w' => e = .returned (.bool r) ∧ Drawn0 w w':=by
 have H : (some (a0.toList != a0.toList)) = some r:=h
 clear h
 obtain rfl:=Option.some.inj H
 go_enter Try.func83,Try.ntmps83
 go_wp2
 go_ret
 exact ⟨by rfl,by repeat (exact Drawn0.refl _)⟩

/-! ### cmp_Less_string: function 71 -/
def cmp_Less_string.f (a0 : ByteArray) (a1 : ByteArray) : Option (Bool):=(cmp_isNaN_string.f a0).bind fun t117 => (if t117 = true then ((cmp_isNaN_string.f a1).bind fun t118 => (if t118 = true then (some (Op.bytesLess a0.toList a1.toList)) else (some true))) else (some (Op.bytesLess a0.toList a1.toList)))
set_option maxHeartbeats 8000000 in
set_option maxRecDepth 100000 in
theorem cmp_Less_string.calls (a0 : ByteArray) (a1 : ByteArray) (r : Bool) (w : World) (h : cmp_Less_string.f a0 a1 = some r) :
  Calls Try.prog 71 #[.string a0, .string a1] w fun e w' => e = .returned (.bool r) ∧ Drawn0 w w':=by
 have H : ((cmp_isNaN_string.f a0).bind fun t117 => (if t117 = true then ((cmp_isNaN_string.f a1).bind fun t118 => (if t118 = true then (some (Op.bytesLess a0.toList a1.toList)) else (some true))) else (some (Op.bytesLess a0.toList a1.toList)))) = some r:=h
 clear h
 replace H:=Option.bind_eq_some_iff.mp H
 obtain ⟨t117,A30,H⟩ := H
 replace H : (if t117 = true then ((cmp_isNaN_string.f a1).bind fun t118 => (if t118 = true then (some (Op.bytesLess a0.toList a1.toList)) else (some true))) else (some (Op.bytesLess a0.toList a1.toList))) = some r:=H
 have A3:=Aside0.mk A30
 clear A30
 by_cases c4 : t117 = true
 ·subst c4
  have H1 : ((cmp_isNaN_string.f a1).bind fun t118 => (if t118 = true then (some (Op.bytesLess a0.toList a1.toList)) else (some true))) = some r:=by rw [if_pos rfl] at H;exact H
  clear H
  have H:=H1
  clear H1
  replace H:=Option.bind_eq_some_iff.mp H
  obtain ⟨t118,A50,H⟩ := H
  replace H : (if t118 = true then (some (Op.bytesLess a0.toList a1.toList)) else (some true)) = some r:=H
  have A5:=Aside0.mk A50
  clear A50
  by_cases c6 : t118 = true
  ·subst c6
   have H1 : (some (Op.bytesLess a0.toList a1.toList)) = some r:=by rw [if_pos rfl] at H;exact H
   clear H
   have H:=H1
   clear H1
   obtain rfl:=Option.some.inj H
   go_enter Try.func71,Try.ntmps71
   go_wp2_with (first | ((with_reducible refine gate_callee (f:=83) rfl ?_);refine goesL_ (some 6) rfl rfl Try.func83 (by kernel_rfl) rfl #[.string a0] rfl (by (try simp only [List.map_toArray,List.map_cons,List.map_nil]);rfl) ?_;(with_reducible refine (cmp_isNaN_string.calls a0 true _ A3.out).mono ?_);rintro e w' ⟨rfl,⟨nd,rfl⟩⟩;refine ⟨_,rfl, ?_⟩) | (go_at_call 83;(with_reducible refine (cmp_isNaN_string.calls a1 true _ A5.out).mono ?_);rintro e w' ⟨rfl,⟨nd,rfl⟩⟩))
   go_ret
   exact ⟨by rfl,by repeat (first | exact Drawn0.refl _ | apply Drawn0.step)⟩
  ·replace c6:=Bool.eq_false_iff.mpr c6
   subst c6
   have H1 : (some true) = some r:=by rw [if_neg (show ¬ (false = true) by decide)] at H;exact H
   clear H
   have H:=H1
   clear H1
   obtain rfl:=Option.some.inj H
   go_enter Try.func71,Try.ntmps71
   go_wp2_with (first | ((with_reducible refine gate_callee (f:=83) rfl ?_);refine goesL_ (some 6) rfl rfl Try.func83 (by kernel_rfl) rfl #[.string a0] rfl (by (try simp only [List.map_toArray,List.map_cons,List.map_nil]);rfl) ?_;(with_reducible refine (cmp_isNaN_string.calls a0 true _ A3.out).mono ?_);rintro e w' ⟨rfl,⟨nd,rfl⟩⟩;refine ⟨_,rfl, ?_⟩) | (go_at_call 83;(with_reducible refine (cmp_isNaN_string.calls a1 false _ A5.out).mono ?_);rintro e w' ⟨rfl,⟨nd,rfl⟩⟩))
   go_ret
   exact ⟨by rfl,by repeat (first | exact Drawn0.refl _ | apply Drawn0.step)⟩
 ·replace c4:=Bool.eq_false_iff.mpr c4
  subst c4
  have H1 : (some (Op.bytesLess a0.toList a1.toList)) = some r:=by rw [if_neg (show ¬ (false = true) by decide)] at H;exact H
  clear H
  have H:=H1
  clear H1
  obtain rfl:=Option.some.inj H
  go_enter Try.func71,Try.ntmps71
  go_wp2_with (((with_reducible refine gate_callee (f:=83) rfl ?_);refine goesL_ (some 6) rfl rfl Try.func83 (by kernel_rfl) rfl #[.string a0] rfl (by (try simp only [List.map_toArray,List.map_cons,List.map_nil]);rfl) ?_;(with_reducible refine (cmp_isNaN_string.calls a0 false _ A3.out).mono ?_);rintro e w' ⟨rfl,⟨nd,rfl⟩⟩;refine ⟨_,rfl, ?_⟩))
  go_ret
  exact ⟨by rfl,by repeat (first | exact Drawn0.refl _ | apply Drawn0.step)⟩



















/-! ### slices_Sort_string: function 40 -/
/-- A text's bytes,and back. -/
def frB (s : ByteArray) : List UInt8:=s.data.toList
def toB (l : List UInt8) : ByteArray:=⟨l.toArray⟩
theorem to_fr (s : ByteArray) : toB (frB s) = s:=rfl
open Go.Shelf Go.Lib Go.Sort in
theorem enc_fr (xs : List ByteArray) : encs Value.string xs = encs encStr (xs.map frB):=by
 simp only [encs,List.map_map]
 rfl
open Go.Shelf Go.Lib Go.Sort in
theorem enc_to (zs : List (List UInt8)) : encs Value.string (zs.map toB) = encs encStr zs:=by
 simp only [encs,List.map_map]
 rfl
open Go.Shelf Go.Lib Go.Sort in
theorem SO_below {w0 w : World} {g n : Nat} {dk : Array (List UInt8)} {os : Array Obj} (hb0 : Below w0.heap.size w0 w) (hg : w0.heap.size ≤ g) : Below w0.heap.size w0 (grow (putRow encStr (Sort.ahead w n) g 0 dk) os) :=
 hb0.trans ⟨rfl,rfl,rfl,by show w.heap.size ≤ (_ ++ os).size;rw [Array.size_append,size_putRow];show w.heap.size ≤ w.heap.size + _;omega,fun k hk => by
  have hk' : k < w.heap.size:=Nat.lt_of_lt_of_le hk hb0.size
  rw [Sort.heap_grow_old _ os (by rw [size_putRow];exact hk')]
  show ((putRow encStr (Sort.ahead w n) g 0 dk).heap)[k]? = w.heap[k]?
  simp only [putRow,mapBlock,Array.getElem?_modify]
  rw [if_neg (by omega)]
  rfl⟩
open Go.Shelf Go.Lib Go.Sort in
theorem SO_kept {w : World} {g n : Nat} {dk : Array (List UInt8)} {os : Array Obj} {S : Nat → Prop} (hs : S g) : Kept w (grow (putRow encStr (Sort.ahead w n) g 0 dk) os) S :=
 ⟨by show w.heap.size ≤ (_ ++ os).size;rw [Array.size_append,size_putRow];show w.heap.size ≤ w.heap.size + _;omega,fun k hk hn => by
  rw [Sort.heap_grow_old _ os (by rw [size_putRow];exact hk)]
  show ((putRow encStr (Sort.ahead w n) g 0 dk).heap)[k]? = w.heap[k]?
  simp only [putRow,mapBlock,Array.getElem?_modify]
  rw [if_neg (fun h => hn (by subst h;exact hs))]
  rfl⟩
open Go.Shelf Go.Lib Go.Sort in
theorem SO_holds {w : World} {base g cap : Nat} {ok : Nat → Prop} {xs : List ByteArray} (hO : Kd.R Kd.string 9 w base ok (.slice (some ⟨g,0,none⟩) xs.length cap) xs) : Holds encStr w g 0 (xs.map frB).toArray:=fun j hj => by
 have hj' : j < xs.length:=by simpa using hj
 have:=Kd.R_cell ByteArray.empty hO (j : Int) (by omega) (by omega)
 rw [Int.toNat_natCast] at this
 rw [Nat.zero_add]
 refine ⟨this.1.trans ?_,this.2⟩
 unfold rdOf
 rw [Int.toNat_natCast,getElem!_pos (xs.map frB).toArray j hj,List.getElem_toArray,List.getD_eq_getElem?_getD,List.getElem?_eq_getElem hj',List.getElem_map]
 rfl
open Go.Shelf Go.Lib Go.Sort in
theorem SO_row {w : World} {base g cap m n : Nat} {ok : Nat → Prop} {cur : Array Value} {zs : List (List UInt8)} {os : Array Obj} (hbase : base ≤ g) (hg : w.heap[g]? = some (.cells cur 9 (0,0))) (hm : m = zs.length) (hn : m ≤ cap) (hcap : cap ≤ maxLen) (hsz : cur.size = cap * 1)
  (rest : List (List UInt8)) (hok : ok g) : Kd.R Kd.string 9 (grow (putRow encStr (Sort.ahead w n) g 0 (zs ++ rest).toArray) os) base ok (.slice (some ⟨g,0,none⟩) m cap) (zs.map toB):=by
 have hglt:=blk_lt hg
 refine Kd.R_of_own ?_ (fun k hk => by injection hk with hk;subst hk;exact hok)
 rw [enc_to]
 refine ⟨by simp [encs],Or.inr ⟨g,cap,putCells encStr 0 (zs ++ rest).toArray cur,by rw [hm,List.length_map],hbase, ?_,by rw [List.length_map,← hm];exact hn,hcap,by rw [← hsz];simp [putCells], ?_⟩⟩
 ·rw [Sort.heap_grow_old _ os (by rw [size_putRow];exact hglt)]
  simp only [putRow,mapBlock,Array.getElem?_modify,if_true]
  show (w.heap[g]?).map _ = _
  rw [hg]
  rfl
 ·apply List.ext_getElem
  ·simp [putCells,encs]
   omega
  ·intro j h1 h2
   have hj : j < zs.length:=by simpa [encs] using h2
   simp [putCells,encs]
   rw [if_pos (by omega),List.getElem?_append_left hj,List.getElem?_eq_getElem hj]
   rfl
def slices_Sort_string.f (l0 : List ByteArray) : Option (List ByteArray):=if l0.length < 4611686018427387904 then some (((l0.map frB).mergeSort fun x y => decide (x ≤ y)).map toB) else none
set_option maxHeartbeats 8000000 in
set_option maxRecDepth 100000 in
open Go.Shelf Go.Lib Go.Sort in
theorem slices_Sort_string.calls (P0_ : Nat → Prop) (u9000_ : Value) (l0 : List ByteArray) (r : List ByteArray) (w0 w : World) (hB : Below w0.heap.size w0 w) (ho0 : Kd.R Kd.string 9 w w0.heap.size P0_ u9000_ l0) (h : slices_Sort_string.f l0 = some r) :
  Calls Try.prog 40 #[u9000_] w fun e w' => e = .returned (.tuple #[]) ∧ Kd.R Kd.string 9 w' w0.heap.size (fun k_ => (P0_ k_ ∨ w.heap.size ≤ k_)) u9000_ r ∧ Below w0.heap.size w0 w' ∧ Kept w w' (fun k_ => P0_ k_):=by
 unfold slices_Sort_string.f at h
 by_cases hl : l0.length < 4611686018427387904
 ·rw [if_pos hl] at h
  obtain rfl:=Option.some.inj h
  obtain ⟨hlen,hnil | ⟨g,cap,cur,hv,hbase,hg,hn,hcap,hsz,htk⟩⟩ := Kd.own_of_R ho0
  ·obtain ⟨rfl,h0⟩ := hnil
   obtain rfl:=List.eq_nil_of_length_eq_zero h0
   refine (Try.slices_Sort_string_none none 0 w).mono fun e w' ⟨he,hw⟩ => ?_
   subst hw
   rw [show ((([] : List ByteArray).map frB).mergeSort fun x y => decide (x ≤ y)) = [] from by simp]
   exact ⟨he,Kd.R_mono ho0 (fun k hk => .inl hk),hB,Kept.refl _ _⟩
  ·subst hv
   have hglt:=blk_lt hg
   have hP : P0_ g:=ho0.1 g rfl
   have con:=Try.slices_Sort_string g 0 cap (l0.map frB) w (SO_holds ho0) hglt (by rw [List.length_map];exact hl)
   rw [List.length_map] at con
   have hs : l0.length = ((l0.map frB).mergeSort fun x y => decide (x ≤ y)).length:=by rw [List.length_mergeSort,List.length_map]
   generalize ((l0.map frB).mergeSort fun x y => decide (x ≤ y)) = zs at con hs ⊢
   refine con.mono fun e w' ⟨he,n,os,hw⟩ => ?_
   subst hw
   have R:=SO_row (n:=n) (os:=os) (ok:=fun k_ => (P0_ k_ ∨ w.heap.size ≤ k_)) hbase hg hs hn hcap hsz [] (.inl hP)
   rw [List.append_nil] at R
   exact ⟨he,R,SO_below hB hbase,SO_kept hP⟩
 ·rw [if_neg hl] at h
  cases h
theorem compact_le (zs : List (List UInt8)) : (Go.Lib.compact zs).length ≤ zs.length:=by
 unfold Go.Lib.compact Go.Lib.compactUpTo
 rw [List.length_map]
 exact Nat.le_trans (List.length_filter_le _ _) (by rw [List.length_range];exact Nat.le_refl _)
def slices_Compact_string.f (l0 : List ByteArray) : Option (List ByteArray):=if l0.length < 4611686018427387904 then some ((Go.Lib.compact (l0.map frB)).map toB) else none
set_option maxHeartbeats 8000000 in
set_option maxRecDepth 100000 in
open Go.Shelf Go.Lib Go.Sort in
theorem slices_Compact_string.made {A0 : Option Addr} {c0 : Nat} {l0 : List ByteArray} {ok : Nat → Prop} {r : List ByteArray} {w0 w : World} (hO : Kd.R Kd.string 9 w w0.heap.size ok (.slice A0 l0.length c0) l0) (hb0 : Below w0.heap.size w0 w) (h : slices_Compact_string.f l0 = some r) :
  Calls Try.prog 41 #[.slice A0 l0.length c0] w fun e w' => ∃ v1 : Value,e = .returned v1 ∧ Kd.R Kd.string 9 w' w0.heap.size (fun _ => True) v1 r ∧ Below w0.heap.size w0 w':=by
 unfold slices_Compact_string.f at h
 by_cases hl : l0.length < 4611686018427387904
 ·rw [if_pos hl] at h
  obtain rfl:=Option.some.inj h
  obtain ⟨hlen,hnil | ⟨g,cap,cur,hv,hbase,hg,hn,hcap,hsz,htk⟩⟩ := Kd.own_of_R hO
  ·obtain ⟨hv,h0⟩ := hnil
   obtain rfl:=List.eq_nil_of_length_eq_zero h0
   refine (Try.slices_Compact_string_empty A0 c0 w).mono fun e w' ⟨he,hw⟩ => ⟨_,he, ?_, ?_⟩
   ·subst hw
    exact Kd.R_mono hO (fun k hk => trivial)
   ·subst hw
    exact hb0
  ·injection hv with hv1 _ hv3
   subst hv1
   subst hv3
   have con:=Try.slices_Compact_string g 0 c0 (l0.map frB) w (SO_holds hO) (by rw [List.length_map];omega) (by rw [List.length_map];exact hn)
   rw [List.length_map] at con
   have hle : (Go.Lib.compact (l0.map frB)).length ≤ l0.length:=by have:=compact_le (l0.map frB);rwa [List.length_map] at this
   generalize Go.Lib.compact (l0.map frB) = zs at con hle ⊢
   refine con.mono fun e w' ⟨he,q,hw⟩ => ⟨_,he, ?_, ?_⟩
   ·subst hw
    have R:=SO_row (n:=q) (os:=#[]) (ok:=fun _ => True) hbase hg rfl (Nat.le_trans hle hn) hcap hsz (List.replicate (l0.length - zs.length) []) trivial
    rwa [Sort.grow_empty] at R
   ·subst hw
    have:=SO_below (n:=q) (dk:=(zs ++ List.replicate (l0.length - zs.length) []).toArray) (os:=#[]) hb0 hbase
    rwa [Sort.grow_empty] at this
 ·rw [if_neg hl] at h
  cases h

/-! ### slices_Compact_string: function 41 (told behind slices_Sort_string) -/

/-! ### impl_HeldContainers: function 13 -/
mutual
def impl_HeldContainers.j0 : Nat → List (S52) → Int → Bool → Option (List ByteArray × Bool)
 | 0,_,_,_ => none
 | k + 1,x0,x1,x16 => if x16 = true then (some (([] : List ByteArray),false)) else (impl_HeldContainers.l0 k x0 x1 (([] : List ByteArray)) x0 (x0.length : Int) 0)
def impl_HeldContainers.l0 : Nat → List (S52) → Int → List ByteArray → List (S52) → Int → Int → Option (List ByteArray × Bool)
 | 0,_,_,_,_,_,_ => none
 | k + 1,x0,x1,x6,x18,x19,x20 => if x20 < x19 then (if 0 ≤ x20 then (if x20 < (x18.length : Int) then ((impl_holdsOn.f k x0 ((rd_T52 x18 x20).f1) x1).bind fun t126 => (if t126 = 0 then (impl_HeldContainers.l0 k x0 x1 x6 x18 x19 (wrap64 (x20 + 1))) else (if x6.length < 8796093022208 then (impl_HeldContainers.l0 k x0 x1 (x6 ++ [(rd_T52 x18 x20).f1]) x18 x19 (wrap64 (x20 + 1))) else (none)))) else (none)) else (none)) else ((slices_Sort_string.f x6).bind fun t130 => ((slices_Compact_string.f t130).bind fun t131 => (some (t131,true))))
end
def impl_HeldContainers.f (k : Nat) (l0 : List (S52)) (a1 : Int) : Option (List ByteArray × Bool):=(impl_IsValidFile.f k l0).bind fun t119 => (if t119 = true then ((impl_within.f a1 0 240).bind fun t120 => (impl_HeldContainers.j0 k l0 a1 (!t120))) else (impl_HeldContainers.j0 k l0 a1 true))
theorem impl_HeldContainers.mono_l : ∀ k,(∀ y0 y1 y2,LeO (impl_HeldContainers.j0 k y0 y1 y2) (impl_HeldContainers.j0 (k + 1) y0 y1 y2)) ∧ (∀ y0 y1 y2 y3 y4 y5,LeO (impl_HeldContainers.l0 k y0 y1 y2 y3 y4 y5) (impl_HeldContainers.l0 (k + 1) y0 y1 y2 y3 y4 y5))
 | 0 => ⟨fun _ _ _ r h => by simp [impl_HeldContainers.j0] at h,fun _ _ _ _ _ _ r h => by simp [impl_HeldContainers.l0] at h⟩
 | k + 1 => by
  obtain ⟨ih0,ih1⟩ := impl_HeldContainers.mono_l k
  refine ⟨?_, ?_⟩
  ·intro y0 y1 y2
   unfold impl_HeldContainers.j0
   repeat' first
   | (with_reducible exact ih0 _ _ _)
   | (with_reducible exact ih1 _ _ _ _ _ _)
   | (with_reducible exact impl_IsValidFile.mono _ _)
   | (with_reducible exact impl_holdsOn.mono _ _ _ _)
   | (with_reducible exact LeO.refl _)
   | (with_reducible exact LeO.none _)
   | (with_reducible refine LeO.ite ?_ ?_)
   | (with_reducible refine LeO.bind ?_ (fun _ => ?_))
   | exact ih0 _ _ _
   | exact ih1 _ _ _ _ _ _
   | exact impl_IsValidFile.mono _ _
   | exact impl_holdsOn.mono _ _ _ _
   | exact LeO.none _
   | refine LeO.ite ?_ ?_
   | refine LeO.bind ?_ (fun _ => ?_)
  ·intro y0 y1 y2 y3 y4 y5
   unfold impl_HeldContainers.l0
   repeat' first
   | (with_reducible exact ih0 _ _ _)
   | (with_reducible exact ih1 _ _ _ _ _ _)
   | (with_reducible exact impl_IsValidFile.mono _ _)
   | (with_reducible exact impl_holdsOn.mono _ _ _ _)
   | (with_reducible exact LeO.refl _)
   | (with_reducible exact LeO.none _)
   | (with_reducible refine LeO.ite ?_ ?_)
   | (with_reducible refine LeO.bind ?_ (fun _ => ?_))
   | exact ih0 _ _ _
   | exact ih1 _ _ _ _ _ _
   | exact impl_IsValidFile.mono _ _
   | exact impl_holdsOn.mono _ _ _ _
   | exact LeO.none _
   | refine LeO.ite ?_ ?_
   | refine LeO.bind ?_ (fun _ => ?_)
theorem impl_HeldContainers.mono : ∀ a0 a1 k,LeO (impl_HeldContainers.f k a0 a1) (impl_HeldContainers.f (k + 1) a0 a1):=by
 intro a0 a1 k
 obtain ⟨ih0,ih1⟩ := impl_HeldContainers.mono_l k
 unfold impl_HeldContainers.f
 repeat' first
   | (with_reducible exact ih0 _ _ _)
   | (with_reducible exact ih1 _ _ _ _ _ _)
   | (with_reducible exact impl_IsValidFile.mono _ _)
   | (with_reducible exact impl_holdsOn.mono _ _ _ _)
   | (with_reducible exact LeO.refl _)
   | (with_reducible exact LeO.none _)
   | (with_reducible refine LeO.ite ?_ ?_)
   | (with_reducible refine LeO.bind ?_ (fun _ => ?_))
   | exact ih0 _ _ _
   | exact ih1 _ _ _ _ _ _
   | exact impl_IsValidFile.mono _ _
   | exact impl_holdsOn.mono _ _ _ _
   | exact LeO.none _
   | refine LeO.ite ?_ ?_
   | refine LeO.bind ?_ (fun _ => ?_)
set_option maxHeartbeats 8000000 in
set_option maxRecDepth 100000 in
theorem impl_HeldContainers.calls (k : Nat) (A0 : Option Addr) (c0 : Nat) (l0 : List (S52)) (a1 : Int) (r1 : List ByteArray) (r2 : Bool) (w : World) (hr0 : Kd.C k52 w A0 l0.length l0) (hc0 : l0.length ≤ c0) (h : impl_HeldContainers.f k l0 a1 = some (r1,r2)) :
  Calls Try.prog 13 #[.slice A0 l0.length c0, .int .i64 a1] w fun e w' => ∃ v0_ : Value,e = .returned (.tuple #[v0_, .bool r2]) ∧ Kd.R Kd.string 9 w' w.heap.size (fun _ => True) v0_ r1 ∧ Below w.heap.size w w':=by
 have hu52:=Try.underlying52
 have HR0:=Aside0.mk hr0
 have HC0:=Aside0.mk hc0
 clear hr0 hc0
 have HB:=Aside0.mk (Below.refl w.heap.size w)
 have H : ((impl_IsValidFile.f k l0).bind fun t119 => (if t119 = true then ((impl_within.f a1 0 240).bind fun t120 => (impl_HeldContainers.j0 k l0 a1 (!t120))) else (impl_HeldContainers.j0 k l0 a1 true))) = some (r1,r2):=h
 clear h
 have HC3:=Aside0.mk H
 clear H
 go_enter Try.func13,Try.ntmps13
 go_upto_region 1 with (fail)
 go_cut [16] (fun v16 wc => ∃ (kq : Nat) (x16_2 : Bool),v16 = .bool x16_2 ∧ Aside0 (impl_HeldContainers.j0 kq l0 a1 x16_2 = some (r1,r2)) ∧ Aside0 (kq ≤ k) ∧ Aside0 (Below w.heap.size w wc))
 case first =>
  have H:=HC3.out
  clear HC3
  replace H:=Option.bind_eq_some_iff.mp H
  obtain ⟨t119,A40,H⟩ := H
  replace H : (if t119 = true then ((impl_within.f a1 0 240).bind fun t120 => (impl_HeldContainers.j0 k l0 a1 (!t120))) else (impl_HeldContainers.j0 k l0 a1 true)) = some (r1,r2):=H
  have A4:=Aside0.mk A40
  clear A40
  by_cases c5 : t119 = true
  ·subst c5
   have H1 : ((impl_within.f a1 0 240).bind fun t120 => (impl_HeldContainers.j0 k l0 a1 (!t120))) = some (r1,r2):=by rw [if_pos rfl] at H;exact H
   clear H
   have H:=H1
   clear H1
   replace H:=Option.bind_eq_some_iff.mp H
   obtain ⟨t120,A60,H⟩ := H
   replace H : (impl_HeldContainers.j0 k l0 a1 (!t120)) = some (r1,r2):=H
   have A6:=Aside0.mk A60
   clear A60
   have H':=Aside0.mk H
   clear H
   go_wp2_with (first | ((with_reducible refine gate_callee (f:=11) rfl ?_);refine goesL_ (some 10) rfl rfl Try.func11 (by kernel_rfl) rfl #[.slice A0 l0.length c0] rfl (by (try simp only [List.map_toArray,List.map_cons,List.map_nil]);rfl) ?_;(with_reducible refine (impl_IsValidFile.calls k _ _ l0 true _ ?side1 ?side2 A4.out).mono ?_);(case side1 => repeat (exact (Kd.C_below HR0.out HB.out)));(case side2 => exact HC0.out);rintro e w7 ⟨rfl,hb⟩;refine ⟨_,rfl, ?_⟩;have n0_:=Aside0.mk (below_step (by exact HB.out) hb);clear HB;have HB:=n0_;clear n0_;(try clear hb)) | (go_at_call 39;(with_reducible refine (impl_within.calls a1 0 240 t120 _ A6.out).mono ?_);rintro e w' ⟨rfl,⟨nd,rfl⟩⟩))
   go_meet
   case rel => exact ⟨_,(!t120),(by rfl),H',⟨by omega⟩,⟨by repeat ((with_reducible first | exact HB.out | apply pw_below_drewN))⟩⟩
  ·replace c5:=Bool.eq_false_iff.mpr c5
   subst c5
   have H1 : (impl_HeldContainers.j0 k l0 a1 true) = some (r1,r2):=by rw [if_neg (show ¬ (false = true) by decide)] at H;exact H
   clear H
   have H:=H1
   clear H1
   have H':=Aside0.mk H
   clear H
   go_wp2_with (((with_reducible refine gate_callee (f:=11) rfl ?_);refine goesL_ (some 10) rfl rfl Try.func11 (by kernel_rfl) rfl #[.slice A0 l0.length c0] rfl (by (try simp only [List.map_toArray,List.map_cons,List.map_nil]);rfl) ?_;(with_reducible refine (impl_IsValidFile.calls k _ _ l0 false _ ?side1 ?side2 A4.out).mono ?_);(case side1 => repeat (exact (Kd.C_below HR0.out HB.out)));(case side2 => exact HC0.out);rintro e w8 ⟨rfl,hb⟩;refine ⟨_,rfl, ?_⟩;have n0_:=Aside0.mk (below_step (by exact HB.out) hb);clear HB;have HB:=n0_;clear n0_;(try clear hb)))
   go_meet
   case rel => exact ⟨_,(true),(by rfl),H',⟨by omega⟩,⟨by exact HB.out⟩⟩
 case rest =>
  clear HC3
  try clear c1
  try clear p2
  try clear c5
  obtain ⟨kq,x16_2,rfl,HA,HJ2,HB⟩ := hcut
  cases kq with
  | zero => exact absurd HA.out (by simp [impl_HeldContainers.j0])
  | succ kj2 =>
   have H:=HA.out
   clear HA
   simp only [impl_HeldContainers.j0] at H
   by_cases c9 : x16_2 = true
   ·subst c9
    have H1 : (some (([] : List ByteArray),false)) = some (r1,r2):=by rw [if_pos rfl] at H;exact H
    clear H
    have H:=H1
    clear H1
    simp only [Option.some.injEq,Prod.mk.injEq] at H
    obtain ⟨rfl,rfl⟩ := H
    go_wp2
    go_ret2
    exact ⟨_,by rfl,by exact Kd.R_nil _ _ _ _ _,by exact HB.out⟩
   ·replace c9:=Bool.eq_false_iff.mpr c9
    subst c9
    have H1 : (impl_HeldContainers.l0 kj2 l0 a1 (([] : List ByteArray)) l0 (l0.length : Int) 0) = some (r1,r2):=by rw [if_neg (show ¬ (false = true) by decide)] at H;exact H
    clear H
    have H:=H1
    clear H1
    obtain ⟨y121,hy121⟩ : ∃ y_ : List ByteArray,y_ = (([] : List ByteArray)):=⟨_,rfl⟩
    replace H : (impl_HeldContainers.l0 kj2 l0 a1 y121 l0 (l0.length : Int) 0) = some (r1,r2):=by (rw [hy121];with_reducible exact H)
    have Ny121:=Aside0.mk hy121
    clear hy121
    have H':=Aside0.mk H
    clear H
    go_wp2_with (((with_reducible refine gate_dst (N:=17) rfl ?_);refine Kd.R_lit Kd.string _ 9 ?hg (N:=17) ?hd (xs:=([] : List ByteArray)) (inner := []) (ok:=fun _ => True) (okp:=fun _ => True) ?hr ?hp (fun _ hk => hk) trivial (Below.refl _ _) (Nat.le_refl _) (by simp) ?_;(case hd => rfl);(case hg => rfl);(case hr => (go_simp;done));(case hp => exact (Reps.none _ _));intro v122 w10 ho11 hb hg_ hnew_;clear hg_ hnew_;(rw [← Ny121.out] at ho11);have n0_:=Aside0.mk (Kd.R_lower ho11 (below_size (by exact HB.out)));have n1_:=Aside0.mk (below_step (by exact HB.out) hb);clear HB;have HO123:=n0_;have HB:=n1_;clear n0_ n1_;clear hb ho11))
    (skip)
    go_loopg [6,20] kj2 (fun kq v6 v20 w' => ∃ (x6_2 : List ByteArray) (x20_2 : Int),v20 = .int .i64 x20_2 ∧ Aside0 (impl_HeldContainers.l0 kq l0 a1 x6_2 l0 (l0.length : Int) x20_2 = some (r1,r2)) ∧ Aside0 (kq ≤ kj2) ∧ Aside0 (Kd.R Kd.string 9 w' w.heap.size (fun _ => True) v6 x6_2) ∧ Aside0 (Below w.heap.size w w'))
    case atStart => exact ⟨(y121),(0),(by rfl),H',⟨Nat.le_refl _⟩,⟨by exact HO123.out⟩,⟨by exact HB.out⟩⟩
    case round =>
     clear H'
     try clear c1
     try clear p2
     try clear c5
     try clear c9
     try clear c11
     try clear p2
     obtain ⟨x6_2,x20_2,rfl,HA,HK2,HO_6,HB⟩ := hrel
     cases gk with
     | zero => exact absurd HA.out (by simp [impl_HeldContainers.l0])
     | succ k2 =>
      have H:=HA.out
      clear HA
      simp only [impl_HeldContainers.l0] at H
      by_cases c12 : x20_2 < (l0.length : Int)
      ·rw [if_pos c12] at H
       have c12b0 : decide (x20_2 < (l0.length : Int)) = true:=decide_eq_true c12
       clear c12
       by_cases c13 : 0 ≤ x20_2
       ·rw [if_pos c13] at H
        have c13b0 : decide (0 ≤ x20_2) = true:=decide_eq_true c13
        clear c13
        by_cases c14 : x20_2 < (l0.length : Int)
        ·rw [if_pos c14] at H
         have c14b0 : decide (x20_2 < (l0.length : Int)) = true:=decide_eq_true c14
         clear c14
         replace H:=Option.bind_eq_some_iff.mp H
         obtain ⟨t126,A150,H⟩ := H
         replace H : (if t126 = 0 then (impl_HeldContainers.l0 k2 l0 a1 x6_2 l0 (l0.length : Int) (wrap64 (x20_2 + 1))) else (if x6_2.length < 8796093022208 then (impl_HeldContainers.l0 k2 l0 a1 (x6_2 ++ [(rd_T52 l0 x20_2).f1]) l0 (l0.length : Int) (wrap64 (x20_2 + 1))) else (none))) = some (r1,r2):=H
         have A15:=Aside0.mk A150
         clear A150
         by_cases c16 : t126 = 0
         ·rw [if_pos c16] at H
          have c16b0 : (t126 == 0) = true:=beq_iff_eq.mpr c16
          have c16b1 : (t126 != 0) = false:=bne_eq_false_iff_eq.mpr c16
          clear c16
          have H':=Aside0.mk H
          clear H
          have p124 : 0 ≤ (x20_2 : Int):=of_decide_eq_true (by (with_reducible assumption))
          have q124 : x20_2 < (l0.length : Int):=of_decide_eq_true (by (with_reducible assumption))
          obtain ⟨ad124,e124,hx124_0,hx124_1,hx124_2,hx124_3⟩ := at_T52 HR0.out x20_2 p124 q124
          cases e124
          replace hx124_0:=(HB.out.cell (World.block_lt_of_cell? w _ hx124_0)).trans hx124_0
          replace hx124_1:=(HB.out.cell (World.block_lt_of_cell? w _ hx124_1)).trans hx124_1
          replace hx124_2:=(HB.out.cell (World.block_lt_of_cell? w _ hx124_2)).trans hx124_2
          replace hx124_3:=(HB.out.cell (World.block_lt_of_cell? w _ hx124_3)).trans hx124_3
          replace p124:=eq_true p124
          replace q124:=eq_true q124
          go_wp2_with (first | ((with_reducible refine gate_dst (N:=8) rfl ?_);refine box_event ?hg (N:=8) ?hd (cs:=#[.int .i64 0, .string (⟨#[]⟩ : ByteArray), .bool false, .int .i64 0]) (t:=52) ?hr ?_;(case hd => rfl);(case hg => rfl);(case hr => (go_simp;done));intro gb125 hg w17 hbox hb;have n0_:=Aside0.mk (Kd.R_below (by exact HO_6.out) hb);have n1_:=Aside0.mk (below_step (by exact HB.out) hb);have n2_:=Aside0.mk (hbox);have n3_:=Aside0.mk ((by rw [hg];exact (below_size (by exact HB.out)) : w.heap.size ≤ gb125));have n4_:=Aside0.mk ((by rw [hg];exact (below_size (by exact HB.out)) : w.heap.size ≤ gb125));clear HO_6;clear HB;have HO_6:=n0_;have HB:=n1_;have BK125:=n2_;have GW125:=n3_;have GE125:=n4_;clear n0_ n1_ n2_ n3_ n4_;clear hb hbox hg;have hcz18_0 : w17.cell? ⟨gb125,0,none⟩ = some (.int .i64 0):=(blk_cell BK125.out 0).trans rfl;have hcz18_1 : w17.cell? ⟨gb125,1,none⟩ = some (.string (⟨#[]⟩ : ByteArray)):=(blk_cell BK125.out 1).trans rfl;have hcz18_2 : w17.cell? ⟨gb125,2,none⟩ = some (.bool false):=(blk_cell BK125.out 2).trans rfl;have hcz18_3 : w17.cell? ⟨gb125,3,none⟩ = some (.int .i64 0):=(blk_cell BK125.out 3).trans rfl;have hfz18_0:=blk_frozen BK125.out 0;have hfz18_1:=blk_frozen BK125.out 1;have hfz18_2:=blk_frozen BK125.out 2;have hfz18_3:=blk_frozen BK125.out 3) | ((with_reducible refine gate_callee (f:=29) rfl ?_);refine goesL_ (some 28) rfl rfl Try.func29 (by kernel_rfl) rfl #[.slice (some ad124) l0.length c0, .string ((rd_T52 l0 x20_2).f1), .int .i64 a1] rfl (by (try simp only [List.map_toArray,List.map_cons,List.map_nil]);rfl) ?_;(with_reducible refine (impl_holdsOn.calls k2 _ _ l0 ((rd_T52 l0 x20_2).f1) a1 t126 _ ?side1 ?side2 A15.out).mono ?_);(case side1 => exact Kd.C_below HR0.out (by repeat ((with_reducible first | exact HB.out | refine below_set ?_ GE125.out))));(case side2 => exact HC0.out);rintro e w19 ⟨rfl,hb⟩;refine ⟨_,rfl, ?_⟩;have n0_:=Aside0.mk (Kd.R_below (by exact (Kd.R_mono (Kd.R_far (p:=⟨gb125,3,none⟩) (Kd.R_far (p:=⟨gb125,2,none⟩) (Kd.R_far (p:=⟨gb125,1,none⟩) (Kd.R_far (p:=⟨gb125,0,none⟩) (Kd.R_types HO_6.out BK125.out (by decide)) (fun _ hk => hk.2) (.int .i64 ((rd_T52 l0 x20_2).f0))) (fun _ hk => hk.2) (.string ((rd_T52 l0 x20_2).f1))) (fun _ hk => hk.2) (.bool ((rd_T52 l0 x20_2).f2))) (fun _ hk => hk.2) (.int .i64 ((rd_T52 l0 x20_2).f3))) (fun _ h_ => h_.1))) hb);have n1_:=Aside0.mk (blk_below (g:=gb125) (o := .cells #[.int .i64 ((rd_T52 l0 x20_2).f0), .string ((rd_T52 l0 x20_2).f1), .bool ((rd_T52 l0 x20_2).f2), .int .i64 ((rd_T52 l0 x20_2).f3)] 52 (0,0)) (by refine blk_put (cs:=#[.int .i64 ((rd_T52 l0 x20_2).f0), .string ((rd_T52 l0 x20_2).f1), .bool ((rd_T52 l0 x20_2).f2), .int .i64 0]) ?_ 3 _ rfl;refine blk_put (cs:=#[.int .i64 ((rd_T52 l0 x20_2).f0), .string ((rd_T52 l0 x20_2).f1), .bool false, .int .i64 0]) ?_ 2 _ rfl;refine blk_put (cs:=#[.int .i64 ((rd_T52 l0 x20_2).f0), .string (⟨#[]⟩ : ByteArray), .bool false, .int .i64 0]) ?_ 1 _ rfl;refine blk_put (cs:=#[.int .i64 0, .string (⟨#[]⟩ : ByteArray), .bool false, .int .i64 0]) ?_ 0 _ rfl;exact BK125.out) hb);have n2_:=Aside0.mk (below_step (by repeat ((with_reducible first | exact HB.out | refine below_set ?_ GE125.out))) hb);clear HO_6;clear BK125;clear HB;have HO_6:=n0_;have BK125:=n1_;have HB:=n2_;clear n0_ n1_ n2_;(try clear hb)))
          go_roundg k2
          case measure => have:=HJ2.out;have:=HK2.out;omega
          case rel => exact ⟨(x6_2),(wrap64 (x20_2 + 1)),(by rfl),H',⟨by have:=HJ2.out;have:=HK2.out;omega⟩,⟨by exact HO_6.out⟩,⟨by exact HB.out⟩⟩
         ·rw [if_neg c16] at H
          have c16b0 : (t126 == 0) = false:=beq_eq_false_iff_ne.mpr c16
          have c16b1 : (t126 != 0) = true:=bne_iff_ne.mpr c16
          by_cases c20 : x6_2.length < 8796093022208
          ·rw [if_pos c20] at H
           have LMc20:=Aside0.mk c20
           clear c20
           obtain ⟨y127,hy127⟩ : ∃ y_ : List ByteArray,y_ = (x6_2 ++ [(rd_T52 l0 x20_2).f1]):=⟨_,rfl⟩
           replace H : (impl_HeldContainers.l0 k2 l0 a1 y127 l0 (l0.length : Int) (wrap64 (x20_2 + 1))) = some (r1,r2):=by (rw [hy127];with_reducible exact H)
           have Ny127:=Aside0.mk hy127
           clear hy127
           have H':=Aside0.mk H
           clear H
           have p124 : 0 ≤ (x20_2 : Int):=of_decide_eq_true (by (with_reducible assumption))
           have q124 : x20_2 < (l0.length : Int):=of_decide_eq_true (by (with_reducible assumption))
           obtain ⟨ad124,e124,hx124_0,hx124_1,hx124_2,hx124_3⟩ := at_T52 HR0.out x20_2 p124 q124
           cases e124
           replace hx124_0:=(HB.out.cell (World.block_lt_of_cell? w _ hx124_0)).trans hx124_0
           replace hx124_1:=(HB.out.cell (World.block_lt_of_cell? w _ hx124_1)).trans hx124_1
           replace hx124_2:=(HB.out.cell (World.block_lt_of_cell? w _ hx124_2)).trans hx124_2
           replace hx124_3:=(HB.out.cell (World.block_lt_of_cell? w _ hx124_3)).trans hx124_3
           replace p124:=eq_true p124
           replace q124:=eq_true q124
           go_wp2_with (first | ((with_reducible refine gate_dst (N:=8) rfl ?_);refine box_event ?hg (N:=8) ?hd (cs:=#[.int .i64 0, .string (⟨#[]⟩ : ByteArray), .bool false, .int .i64 0]) (t:=52) ?hr ?_;(case hd => rfl);(case hg => rfl);(case hr => (go_simp;done));intro gb125 hg w21 hbox hb;have n0_:=Aside0.mk (Kd.R_below (by exact HO_6.out) hb);have n1_:=Aside0.mk (below_step (by exact HB.out) hb);have n2_:=Aside0.mk (hbox);have n3_:=Aside0.mk ((by rw [hg];exact (below_size (by exact HB.out)) : w.heap.size ≤ gb125));have n4_:=Aside0.mk ((by rw [hg];exact (below_size (by exact HB.out)) : w.heap.size ≤ gb125));clear HO_6;clear HB;have HO_6:=n0_;have HB:=n1_;have BK125:=n2_;have GW125:=n3_;have GE125:=n4_;clear n0_ n1_ n2_ n3_ n4_;clear hb hbox hg;have hcz22_0 : w21.cell? ⟨gb125,0,none⟩ = some (.int .i64 0):=(blk_cell BK125.out 0).trans rfl;have hcz22_1 : w21.cell? ⟨gb125,1,none⟩ = some (.string (⟨#[]⟩ : ByteArray)):=(blk_cell BK125.out 1).trans rfl;have hcz22_2 : w21.cell? ⟨gb125,2,none⟩ = some (.bool false):=(blk_cell BK125.out 2).trans rfl;have hcz22_3 : w21.cell? ⟨gb125,3,none⟩ = some (.int .i64 0):=(blk_cell BK125.out 3).trans rfl;have hfz22_0:=blk_frozen BK125.out 0;have hfz22_1:=blk_frozen BK125.out 1;have hfz22_2:=blk_frozen BK125.out 2;have hfz22_3:=blk_frozen BK125.out 3) | ((with_reducible refine gate_callee (f:=29) rfl ?_);refine goesL_ (some 28) rfl rfl Try.func29 (by kernel_rfl) rfl #[.slice (some ad124) l0.length c0, .string ((rd_T52 l0 x20_2).f1), .int .i64 a1] rfl (by (try simp only [List.map_toArray,List.map_cons,List.map_nil]);rfl) ?_;(with_reducible refine (impl_holdsOn.calls k2 _ _ l0 ((rd_T52 l0 x20_2).f1) a1 t126 _ ?side1 ?side2 A15.out).mono ?_);(case side1 => exact Kd.C_below HR0.out (by repeat ((with_reducible first | exact HB.out | refine below_set ?_ GE125.out))));(case side2 => exact HC0.out);rintro e w23 ⟨rfl,hb⟩;refine ⟨_,rfl, ?_⟩;have n0_:=Aside0.mk (Kd.R_below (by exact (Kd.R_mono (Kd.R_far (p:=⟨gb125,3,none⟩) (Kd.R_far (p:=⟨gb125,2,none⟩) (Kd.R_far (p:=⟨gb125,1,none⟩) (Kd.R_far (p:=⟨gb125,0,none⟩) (Kd.R_types HO_6.out BK125.out (by decide)) (fun _ hk => hk.2) (.int .i64 ((rd_T52 l0 x20_2).f0))) (fun _ hk => hk.2) (.string ((rd_T52 l0 x20_2).f1))) (fun _ hk => hk.2) (.bool ((rd_T52 l0 x20_2).f2))) (fun _ hk => hk.2) (.int .i64 ((rd_T52 l0 x20_2).f3))) (fun _ h_ => h_.1))) hb);have n1_:=Aside0.mk (blk_below (g:=gb125) (o := .cells #[.int .i64 ((rd_T52 l0 x20_2).f0), .string ((rd_T52 l0 x20_2).f1), .bool ((rd_T52 l0 x20_2).f2), .int .i64 ((rd_T52 l0 x20_2).f3)] 52 (0,0)) (by refine blk_put (cs:=#[.int .i64 ((rd_T52 l0 x20_2).f0), .string ((rd_T52 l0 x20_2).f1), .bool ((rd_T52 l0 x20_2).f2), .int .i64 0]) ?_ 3 _ rfl;refine blk_put (cs:=#[.int .i64 ((rd_T52 l0 x20_2).f0), .string ((rd_T52 l0 x20_2).f1), .bool false, .int .i64 0]) ?_ 2 _ rfl;refine blk_put (cs:=#[.int .i64 ((rd_T52 l0 x20_2).f0), .string (⟨#[]⟩ : ByteArray), .bool false, .int .i64 0]) ?_ 1 _ rfl;refine blk_put (cs:=#[.int .i64 0, .string (⟨#[]⟩ : ByteArray), .bool false, .int .i64 0]) ?_ 0 _ rfl;exact BK125.out) hb);have n2_:=Aside0.mk (below_step (by repeat ((with_reducible first | exact HB.out | refine below_set ?_ GE125.out))) hb);clear HO_6;clear BK125;clear HB;have HO_6:=n0_;have BK125:=n1_;have HB:=n2_;clear n0_ n1_ n2_;(try clear hb);have hcz24_0 : w23.cell? ⟨gb125,0,none⟩ = some (.int .i64 ((rd_T52 l0 x20_2).f0)):=(blk_cell BK125.out 0).trans rfl;have hcz24_1 : w23.cell? ⟨gb125,1,none⟩ = some (.string ((rd_T52 l0 x20_2).f1)):=(blk_cell BK125.out 1).trans rfl;have hcz24_2 : w23.cell? ⟨gb125,2,none⟩ = some (.bool ((rd_T52 l0 x20_2).f2)):=(blk_cell BK125.out 2).trans rfl;have hcz24_3 : w23.cell? ⟨gb125,3,none⟩ = some (.int .i64 ((rd_T52 l0 x20_2).f3)):=(blk_cell BK125.out 3).trans rfl;have hfz24_0:=blk_frozen BK125.out 0;have hfz24_1:=blk_frozen BK125.out 1;have hfz24_2:=blk_frozen BK125.out 2;have hfz24_3:=blk_frozen BK125.out 3) | ((with_reducible refine gate_builtin (b := .append) (xs:=#[.tmp 30, .tmp 33]) rfl ?_);at_builtin;refine Kd.R_append Kd.string (w0:=w) w.heap.size rfl (.tmp 30) (.tmp 33) 35 9 (.string ⟨#[]⟩) 16 rfl Try.underlying35 info9 rfl (by decide) (by omega) u6 x6_2 ((rd_T52 l0 x20_2).f1) [.string ((rd_T52 l0 x20_2).f1)] (fun _ => True) (fun _ => False) rfl rfl ?aP (fun _ hk => hk.elim) ?aF ?aO ?aB ?aS ?aL ?_;(case aP => exact rfl);(case aB => exact (by exact HB.out));(case aF => exact (fun _ _ => trivial));(case aO => exact (by exact HO_6.out));(case aS => exact (below_size (by exact HB.out)));(case aL => have:=LMc20.out;omega);intro v128 w25 ho hb hg hat;rw [← Ny127.out] at ho;have n0_:=Aside0.mk (blk_grown (g:=gb125) (o := .cells #[.int .i64 ((rd_T52 l0 x20_2).f0), .string ((rd_T52 l0 x20_2).f1), .bool ((rd_T52 l0 x20_2).f2), .int .i64 ((rd_T52 l0 x20_2).f3)] 52 (0,0)) (by exact BK125.out) hg (Kd.R_ne HO_6.out BK125.out (by decide)));have n1_:=Aside0.mk (hb);have n2_:=Aside0.mk (ho);clear BK125;clear HB;clear HO_6;have BK125:=n0_;have HB:=n1_;have HO129:=n2_;clear n0_ n1_ n2_;clear ho hb hg hat))
           go_roundg k2
           case measure => have:=HJ2.out;have:=HK2.out;omega
           case rel => exact ⟨(y127),(wrap64 (x20_2 + 1)),(by rfl),H',⟨by have:=HJ2.out;have:=HK2.out;omega⟩,⟨by exact HO129.out⟩,⟨by exact HB.out⟩⟩
          ·rw [if_neg c20] at H
           exact absurd H (by simp)
        ·rw [if_neg c14] at H
         exact absurd H (by simp)
       ·rw [if_neg c13] at H
        exact absurd H (by simp)
      ·rw [if_neg c12] at H
       have c12b0 : decide (x20_2 < (l0.length : Int)) = false:=decide_eq_false c12
       clear c12
       replace H:=Option.bind_eq_some_iff.mp H
       obtain ⟨t130,A260,H⟩ := H
       replace H : ((slices_Compact_string.f t130).bind fun t131 => (some (t131,true))) = some (r1,r2):=H
       have A26:=Aside0.mk A260
       clear A260
       replace H:=Option.bind_eq_some_iff.mp H
       obtain ⟨t131,A270,H⟩ := H
       replace H : (some (t131,true)) = some (r1,r2):=H
       have A27:=Aside0.mk A270
       clear A270
       simp only [Option.some.injEq,Prod.mk.injEq] at H
       obtain ⟨rfl,rfl⟩ := H
       obtain ⟨Ao28,co28,eo28⟩ := Kd.R_slice HO_6.out
       subst eo28
       go_wp2_with (first | ((with_reducible refine gate_callee (f:=40) rfl ?_);refine goesL_ (some 37) rfl rfl Try.func40 (by kernel_rfl) rfl #[.slice Ao28 x6_2.length co28] rfl (by (try simp only [List.map_toArray,List.map_cons,List.map_nil]);rfl) ?_;(with_reducible refine (slices_Sort_string.calls (fun k_ => some k_ = (.slice Ao28 x6_2.length co28 : Value).ownBlock) (.slice Ao28 x6_2.length co28) x6_2 t130 w _ ?side1 ?side2 A26.out).mono ?_);(case side1 => exact HB.out);(case side2 => exact Kd.R_tight rfl HO_6.out);rintro e w29 ⟨rfl,hy0,hb,hkp⟩;refine ⟨_,rfl, ?_⟩;have n0_:=Aside0.mk (Kd.R_reok rfl hy0 (fun k_ e_ => HO_6.out.1 k_ e_));have n1_:=Aside0.mk (hb);clear HO_6;clear HB;have HO_6:=n0_;have HB:=n1_;clear n0_ n1_;(try clear hb);(try clear hkp);(try clear hy0)) | ((with_reducible refine gate_callee (f:=41) rfl ?_);refine goesL_ (some 39) rfl rfl Try.func41 (by kernel_rfl) rfl #[.slice Ao28 t130.length co28] rfl (by (try simp only [List.map_toArray,List.map_cons,List.map_nil]);(rw [show t130.length = x6_2.length from (Kd.R_reads' HO_6.out).1.symm] <;> rfl)) ?_;(refine (slices_Compact_string.made (w0:=w) (A0:=Ao28) (c0:=co28) (l0:=t130) (by rw [show t130.length = x6_2.length from (Kd.R_reads' HO_6.out).1.symm];exact HO_6.out) (by exact HB.out) A27.out).mono ?_);rintro e w30 ⟨v132,rfl,ho0,hb⟩;refine ⟨_,rfl, ?_⟩;have n1_:=Aside0.mk ho0;have n3_:=Aside0.mk hb;clear HO_6;clear HB;have HO133:=n1_;have HB:=n3_;clear n1_ n3_ hb ho0))
       go_ret2
       exact ⟨_,by rfl,by exact Kd.R_mono HO133.out (fun _ hk => trivial),by exact HB.out⟩

end Go.Proofs.Yteebkbikpamkmaa.PFnExactHeldContainers
