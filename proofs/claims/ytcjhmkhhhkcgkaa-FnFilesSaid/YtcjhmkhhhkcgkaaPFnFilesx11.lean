-- Written by a program of this session, over the kit's print (wip/xprint.py)
import Derived.Test.YtcjhmkhhhkcgkaaPFnFilesx0
import Derived.Test.YtcjhmkhhhkcgkaaPFnFilesx7
import Derived.Test.YtcjhmkhhhkcgkaaPFnFilesx10
namespace Go.Proofs.Ytcjhmkhhhkcgkaa.PFnFiles
open Go.RowKit Go.Proofs.YtcjhmkhhhkcgkaaW.PrintWords Go.Proofs.YtcjhmkhhhkcgkaaW.PrintLast Go.Proofs.YtcjhmkhhhkcgkaaW.PrintMore
attribute [local go_sem] max2_int min2_int max_two min_two max_three min_three max_four min_four   -- for this text's walks alone
set_option linter.unusedVariables false
set_option linter.unusedSimpArgs false

/-! ### impl_holdsOn: function 30 -/
mutual
def impl_holdsOn.l0 : Nat → ByteArray → Int → Int → List (S26) → Int → Int → Option (Int)
 | 0,_,_,_,_,_,_ => none
 | k + 1,x1,x2,x7,x10,x11,x12 => if x12 < x11 then (if 0 ≤ x12 then (if x12 < (x10.length : Int) then (if ((rd_T26 x10 x12).f1).toList = x1.toList then (impl_holdsOn.j1 k x1 x2 x7 x10 x11 x12 (decide (((rd_T26 x10 x12).f0) > x2)) ((rd_T26 x10 x12).f0) ((rd_T26 x10 x12).f1) ((rd_T26 x10 x12).f2) ((rd_T26 x10 x12).f3)) else (impl_holdsOn.j1 k x1 x2 x7 x10 x11 x12 true ((rd_T26 x10 x12).f0) ((rd_T26 x10 x12).f1) ((rd_T26 x10 x12).f2) ((rd_T26 x10 x12).f3))) else (none)) else (none)) else (some x7)
def impl_holdsOn.j1 : Nat → ByteArray → Int → Int → List (S26) → Int → Int → Bool → Int → ByteArray → Bool → Int → Option (Int)
 | 0,_,_,_,_,_,_,_,_,_,_,_ => none
 | k + 1,x1,x2,x7,x10,x11,x12,x20,x399000,x399001,x399002,x399003 => if x20 = true then (impl_holdsOn.l0 k x1 x2 x7 x10 x11 (wrap64 (x12 + 1))) else (if x399002 = true then (impl_holdsOn.l0 k x1 x2 (Go.bits .or .i64 x7 x399003) x10 x11 (wrap64 (x12 + 1))) else (impl_holdsOn.l0 k x1 x2 (Go.bits .andNot .i64 x7 x399003) x10 x11 (wrap64 (x12 + 1))))
end
def impl_holdsOn.f (k : Nat) (l0 : List (S26)) (a1 : ByteArray) (a2 : Int) : Option (Int):=impl_holdsOn.l0 k a1 a2 0 l0 (l0.length : Int) 0
theorem impl_holdsOn.mono_l : ∀ k,(∀ y0 y1 y2 y3 y4 y5,LeO (impl_holdsOn.l0 k y0 y1 y2 y3 y4 y5) (impl_holdsOn.l0 (k + 1) y0 y1 y2 y3 y4 y5)) ∧ (∀ y0 y1 y2 y3 y4 y5 y6 y7 y8 y9 y10,LeO (impl_holdsOn.j1 k y0 y1 y2 y3 y4 y5 y6 y7 y8 y9 y10) (impl_holdsOn.j1 (k + 1) y0 y1 y2 y3 y4 y5 y6 y7 y8 y9 y10))
 | 0 => ⟨fun _ _ _ _ _ _ r h => by simp [impl_holdsOn.l0] at h,fun _ _ _ _ _ _ _ _ _ _ _ r h => by simp [impl_holdsOn.j1] at h⟩
 | k + 1 => by
  obtain ⟨ih0,ih1⟩ := impl_holdsOn.mono_l k
  refine ⟨?_, ?_⟩
  ·intro y0 y1 y2 y3 y4 y5
   unfold impl_holdsOn.l0
   repeat' first
   | (with_reducible exact ih0 _ _ _ _ _ _)
   | (with_reducible exact ih1 _ _ _ _ _ _ _ _ _ _ _)
   | (with_reducible exact LeO.refl _)
   | (with_reducible exact LeO.none _)
   | (with_reducible refine LeO.ite ?_ ?_)
   | (with_reducible refine LeO.bind ?_ (fun _ => ?_))
   | exact ih0 _ _ _ _ _ _
   | exact ih1 _ _ _ _ _ _ _ _ _ _ _
   | exact LeO.none _
   | refine LeO.ite ?_ ?_
   | refine LeO.bind ?_ (fun _ => ?_)
  ·intro y0 y1 y2 y3 y4 y5 y6 y7 y8 y9 y10
   unfold impl_holdsOn.j1
   repeat' first
   | (with_reducible exact ih0 _ _ _ _ _ _)
   | (with_reducible exact ih1 _ _ _ _ _ _ _ _ _ _ _)
   | (with_reducible exact LeO.refl _)
   | (with_reducible exact LeO.none _)
   | (with_reducible refine LeO.ite ?_ ?_)
   | (with_reducible refine LeO.bind ?_ (fun _ => ?_))
   | exact ih0 _ _ _ _ _ _
   | exact ih1 _ _ _ _ _ _ _ _ _ _ _
   | exact LeO.none _
   | refine LeO.ite ?_ ?_
   | refine LeO.bind ?_ (fun _ => ?_)
theorem impl_holdsOn.mono : ∀ a0 a1 a2 k,LeO (impl_holdsOn.f k a0 a1 a2) (impl_holdsOn.f (k + 1) a0 a1 a2):=by
 intro a0 a1 a2 k
 obtain ⟨ih0,ih1⟩ := impl_holdsOn.mono_l k
 unfold impl_holdsOn.f
 repeat' first
   | (with_reducible exact ih0 _ _ _ _ _ _)
   | (with_reducible exact ih1 _ _ _ _ _ _ _ _ _ _ _)
   | (with_reducible exact LeO.refl _)
   | (with_reducible exact LeO.none _)
   | (with_reducible refine LeO.ite ?_ ?_)
   | (with_reducible refine LeO.bind ?_ (fun _ => ?_))
   | exact ih0 _ _ _ _ _ _
   | exact ih1 _ _ _ _ _ _ _ _ _ _ _
   | exact LeO.none _
   | refine LeO.ite ?_ ?_
   | refine LeO.bind ?_ (fun _ => ?_)
set_option maxHeartbeats 8000000 in
set_option maxRecDepth 100000 in
theorem impl_holdsOn.calls (k : Nat) (A0 : Option Addr) (c0 : Nat) (l0 : List (S26)) (a1 : ByteArray) (a2 : Int) (r : Int) (w : World) (hr0 : Kd.C k26 w A0 l0.length l0) (hc0 : l0.length ≤ c0) (h : impl_holdsOn.f k l0 a1 a2 = some r) :
  Calls Try.prog 30 #[.slice A0 l0.length c0, .string a1, .int .i64 a2] w fun e w' => e = .returned (.int .i64 r) ∧ Below w.heap.size w w':=by
 have hu26:=Try.underlying26
 have HR0:=Aside0.mk hr0
 have HC0:=Aside0.mk hc0
 clear hr0 hc0
 have HB:=Aside0.mk (Below.refl w.heap.size w)
 have H : (impl_holdsOn.l0 k a1 a2 0 l0 (l0.length : Int) 0) = some r:=h
 clear h
 have H':=Aside0.mk H
 clear H
 go_enter Try.func30,Try.ntmps30
 go_wp2
 go_loopg [7,12] k (fun kq v7 v12 w' => ∃ (x7_1 : Int) (x12_1 : Int),v7 = .int .i64 x7_1 ∧ v12 = .int .i64 x12_1 ∧ Aside0 (impl_holdsOn.l0 kq a1 a2 x7_1 l0 (l0.length : Int) x12_1 = some r) ∧ Aside0 (kq ≤ k) ∧ Aside0 (Below w.heap.size w w'))
 case atStart => exact ⟨(0),(0),(by rfl),(by rfl),H',⟨Nat.le_refl _⟩,⟨by exact HB.out⟩⟩
 case round =>
  clear H'
  try clear p2
  try clear c3
  obtain ⟨x7_1,x12_1,rfl,rfl,HA,HK1,HB⟩ := hrel
  cases gk with
  | zero => exact absurd HA.out (by simp [impl_holdsOn.l0])
  | succ k1 =>
   have H:=HA.out
   clear HA
   simp only [impl_holdsOn.l0] at H
   by_cases c4 : x12_1 < (l0.length : Int)
   ·rw [if_pos c4] at H
    have c4b0 : decide (x12_1 < (l0.length : Int)) = true:=decide_eq_true c4
    clear c4
    by_cases c5 : 0 ≤ x12_1
    ·rw [if_pos c5] at H
     have c5b0 : decide (0 ≤ x12_1) = true:=decide_eq_true c5
     clear c5
     by_cases c6 : x12_1 < (l0.length : Int)
     ·rw [if_pos c6] at H
      have c6b0 : decide (x12_1 < (l0.length : Int)) = true:=decide_eq_true c6
      clear c6
      have HC7:=Aside0.mk H
      clear H
      have p397 : 0 ≤ (x12_1 : Int):=of_decide_eq_true (by (with_reducible assumption))
      have q397 : x12_1 < (l0.length : Int):=of_decide_eq_true (by (with_reducible assumption))
      obtain ⟨ad397,e397,hx397_0,hx397_1,hx397_2,hx397_3⟩ := at_T26 HR0.out x12_1 p397 q397
      cases e397
      replace hx397_0:=(HB.out.cell (World.block_lt_of_cell? w _ hx397_0)).trans hx397_0
      replace hx397_1:=(HB.out.cell (World.block_lt_of_cell? w _ hx397_1)).trans hx397_1
      replace hx397_2:=(HB.out.cell (World.block_lt_of_cell? w _ hx397_2)).trans hx397_2
      replace hx397_3:=(HB.out.cell (World.block_lt_of_cell? w _ hx397_3)).trans hx397_3
      replace p397:=eq_true p397
      replace q397:=eq_true q397
      go_upto_region 6 with (((with_reducible refine gate_dst (N:=9) rfl ?_);refine box_event ?hg (N:=9) ?hd (cs:=#[.int .i64 0, .string (⟨#[]⟩ : ByteArray), .bool false, .int .i64 0]) (t:=26) ?hr ?_;(case hd => rfl);(case hg => rfl);(case hr => (go_simp;done));intro gb398 hg w8 hbox hb;have n0_:=Aside0.mk (below_step (by exact HB.out) hb);have n1_:=Aside0.mk (hbox);have n2_:=Aside0.mk ((by rw [hg];exact (below_size (by exact HB.out)) : w.heap.size ≤ gb398));have n3_:=Aside0.mk ((by rw [hg];exact (below_size (by exact HB.out)) : w.heap.size ≤ gb398));clear HB;have HB:=n0_;have BK398:=n1_;have GW398:=n2_;have GE398:=n3_;clear n0_ n1_ n2_ n3_;clear hb hbox hg;have hcz9_0 : w8.cell? ⟨gb398,0,none⟩ = some (.int .i64 0):=(blk_cell BK398.out 0).trans rfl;have hcz9_1 : w8.cell? ⟨gb398,1,none⟩ = some (.string (⟨#[]⟩ : ByteArray)):=(blk_cell BK398.out 1).trans rfl;have hcz9_2 : w8.cell? ⟨gb398,2,none⟩ = some (.bool false):=(blk_cell BK398.out 2).trans rfl;have hcz9_3 : w8.cell? ⟨gb398,3,none⟩ = some (.int .i64 0):=(blk_cell BK398.out 3).trans rfl;have hfz9_0:=blk_frozen BK398.out 0;have hfz9_1:=blk_frozen BK398.out 1;have hfz9_2:=blk_frozen BK398.out 2;have hfz9_3:=blk_frozen BK398.out 3))
      (skip)
      go_cut [20] (fun v20 wc => ∃ (kq : Nat) (x20_6 : Bool),v20 = .bool x20_6 ∧ Aside0 (impl_holdsOn.j1 kq a1 a2 x7_1 l0 (l0.length : Int) x12_1 x20_6 ((rd_T26 l0 x12_1).f0) ((rd_T26 l0 x12_1).f1) ((rd_T26 l0 x12_1).f2) ((rd_T26 l0 x12_1).f3) = some r) ∧ Aside0 (kq ≤ k1) ∧ Aside0 (wc.heap[gb398]? = some (.cells #[.int .i64 ((rd_T26 l0 x12_1).f0), .string ((rd_T26 l0 x12_1).f1), .bool ((rd_T26 l0 x12_1).f2), .int .i64 ((rd_T26 l0 x12_1).f3)] 26 (0,0))) ∧ Aside0 (Below w.heap.size w wc))
      case first =>
       have H:=HC7.out
       clear HC7
       by_cases c10 : ((rd_T26 l0 x12_1).f1).toList = a1.toList
       ·rw [if_pos c10] at H
        have c10b0 : (((rd_T26 l0 x12_1).f1).toList == a1.toList) = true:=beq_iff_eq.mpr c10
        have c10b1 : (((rd_T26 l0 x12_1).f1).toList != a1.toList) = false:=bne_eq_false_iff_eq.mpr c10
        clear c10
        (skip)
        have H':=Aside0.mk H
        clear H
        have hcz11_0 : w8.cell? ⟨gb398,0,none⟩ = some (.int .i64 0):=(blk_cell BK398.out 0).trans rfl
        have hcz11_1 : w8.cell? ⟨gb398,1,none⟩ = some (.string (⟨#[]⟩ : ByteArray)):=(blk_cell BK398.out 1).trans rfl
        have hcz11_2 : w8.cell? ⟨gb398,2,none⟩ = some (.bool false):=(blk_cell BK398.out 2).trans rfl
        have hcz11_3 : w8.cell? ⟨gb398,3,none⟩ = some (.int .i64 0):=(blk_cell BK398.out 3).trans rfl
        have hfz11_0:=blk_frozen BK398.out 0
        have hfz11_1:=blk_frozen BK398.out 1
        have hfz11_2:=blk_frozen BK398.out 2
        have hfz11_3:=blk_frozen BK398.out 3
        go_wp2
        go_meet
        case rel => exact ⟨_,(decide (((rd_T26 l0 x12_1).f0) > a2)),(by rfl),H',⟨by have:=HK1.out;omega⟩,⟨by refine blk_put (cs:=#[.int .i64 ((rd_T26 l0 x12_1).f0), .string ((rd_T26 l0 x12_1).f1), .bool ((rd_T26 l0 x12_1).f2), .int .i64 0]) ?_ 3 _ rfl;refine blk_put (cs:=#[.int .i64 ((rd_T26 l0 x12_1).f0), .string ((rd_T26 l0 x12_1).f1), .bool false, .int .i64 0]) ?_ 2 _ rfl;refine blk_put (cs:=#[.int .i64 ((rd_T26 l0 x12_1).f0), .string (⟨#[]⟩ : ByteArray), .bool false, .int .i64 0]) ?_ 1 _ rfl;refine blk_put (cs:=#[.int .i64 0, .string (⟨#[]⟩ : ByteArray), .bool false, .int .i64 0]) ?_ 0 _ rfl;exact BK398.out⟩,⟨by repeat ((with_reducible first | exact HB.out | refine below_set ?_ GE398.out))⟩⟩
       ·rw [if_neg c10] at H
        have c10b0 : (((rd_T26 l0 x12_1).f1).toList == a1.toList) = false:=beq_eq_false_iff_ne.mpr c10
        have c10b1 : (((rd_T26 l0 x12_1).f1).toList != a1.toList) = true:=bne_iff_ne.mpr c10
        (skip)
        have H':=Aside0.mk H
        clear H
        have hcz12_0 : w8.cell? ⟨gb398,0,none⟩ = some (.int .i64 0):=(blk_cell BK398.out 0).trans rfl
        have hcz12_1 : w8.cell? ⟨gb398,1,none⟩ = some (.string (⟨#[]⟩ : ByteArray)):=(blk_cell BK398.out 1).trans rfl
        have hcz12_2 : w8.cell? ⟨gb398,2,none⟩ = some (.bool false):=(blk_cell BK398.out 2).trans rfl
        have hcz12_3 : w8.cell? ⟨gb398,3,none⟩ = some (.int .i64 0):=(blk_cell BK398.out 3).trans rfl
        have hfz12_0:=blk_frozen BK398.out 0
        have hfz12_1:=blk_frozen BK398.out 1
        have hfz12_2:=blk_frozen BK398.out 2
        have hfz12_3:=blk_frozen BK398.out 3
        go_wp2
        go_meet
        case rel => exact ⟨_,(true),(by rfl),H',⟨by have:=HK1.out;omega⟩,⟨by refine blk_put (cs:=#[.int .i64 ((rd_T26 l0 x12_1).f0), .string ((rd_T26 l0 x12_1).f1), .bool ((rd_T26 l0 x12_1).f2), .int .i64 0]) ?_ 3 _ rfl;refine blk_put (cs:=#[.int .i64 ((rd_T26 l0 x12_1).f0), .string ((rd_T26 l0 x12_1).f1), .bool false, .int .i64 0]) ?_ 2 _ rfl;refine blk_put (cs:=#[.int .i64 ((rd_T26 l0 x12_1).f0), .string (⟨#[]⟩ : ByteArray), .bool false, .int .i64 0]) ?_ 1 _ rfl;refine blk_put (cs:=#[.int .i64 0, .string (⟨#[]⟩ : ByteArray), .bool false, .int .i64 0]) ?_ 0 _ rfl;exact BK398.out⟩,⟨by repeat ((with_reducible first | exact HB.out | refine below_set ?_ GE398.out))⟩⟩
      case rest =>
       clear HC7
       try clear c1
       try clear p2
       try clear c3
       try clear p3
       try clear q3
       try clear hx3
       try clear c4
       try clear c4b0
       try clear c5
       try clear c5b0
       try clear c6
       try clear c6b0
       try clear c10
       try clear c10b0
       try clear c10b1
       try clear hcz11_0
       try clear hcz11_1
       try clear hcz11_2
       try clear hcz11_3
       try clear hcz12_0
       try clear hcz12_1
       try clear hcz12_2
       try clear hcz12_3
       try clear hcz9_0
       try clear hcz9_1
       try clear hcz9_2
       try clear hcz9_3
       try clear hfz11_0
       try clear hfz11_1
       try clear hfz11_2
       try clear hfz11_3
       try clear hfz12_0
       try clear hfz12_1
       try clear hfz12_2
       try clear hfz12_3
       try clear hfz9_0
       try clear hfz9_1
       try clear hfz9_2
       try clear hfz9_3
       try clear hx397_0
       try clear hx397_1
       try clear hx397_2
       try clear hx397_3
       try clear p2
       try clear p397
       try clear q397
       obtain ⟨kq,x20_6,rfl,HA,HJ6,BK398,HB⟩ := hcut
       cases kq with
       | zero => exact absurd HA.out (by simp [impl_holdsOn.j1])
       | succ kj6 =>
        have H:=HA.out
        clear HA
        simp only [impl_holdsOn.j1] at H
        by_cases c13 : x20_6 = true
        ·subst c13
         have H1 : (impl_holdsOn.l0 kj6 a1 a2 x7_1 l0 (l0.length : Int) (wrap64 (x12_1 + 1))) = some r:=by rw [if_pos rfl] at H;exact H
         clear H
         have H:=H1
         clear H1
         have H':=Aside0.mk H
         clear H
         go_wp2
         go_roundg kj6
         case measure => have:=HK1.out;have:=HJ6.out;omega
         case rel => exact ⟨(x7_1),(wrap64 (x12_1 + 1)),(by rfl),(by rfl),H',⟨by have:=HK1.out;have:=HJ6.out;omega⟩,⟨by exact HB.out⟩⟩
        ·replace c13:=Bool.eq_false_iff.mpr c13
         subst c13
         have H1 : (if ((rd_T26 l0 x12_1).f2) = true then (impl_holdsOn.l0 kj6 a1 a2 (Go.bits .or .i64 x7_1 ((rd_T26 l0 x12_1).f3)) l0 (l0.length : Int) (wrap64 (x12_1 + 1))) else (impl_holdsOn.l0 kj6 a1 a2 (Go.bits .andNot .i64 x7_1 ((rd_T26 l0 x12_1).f3)) l0 (l0.length : Int) (wrap64 (x12_1 + 1)))) = some r:=by rw [if_neg (show ¬ (false = true) by decide)] at H;exact H
         clear H
         have H:=H1
         clear H1
         by_cases c14 : ((rd_T26 l0 x12_1).f2) = true
         ·rw [if_pos c14] at H
          have c14b0 : ((rd_T26 l0 x12_1).f2) = true:=c14
          clear c14
          have H':=Aside0.mk H
          clear H
          have hcz15_0 : wc.cell? ⟨gb398,0,none⟩ = some (.int .i64 ((rd_T26 l0 x12_1).f0)):=(blk_cell BK398.out 0).trans rfl
          have hcz15_1 : wc.cell? ⟨gb398,1,none⟩ = some (.string ((rd_T26 l0 x12_1).f1)):=(blk_cell BK398.out 1).trans rfl
          have hcz15_2 : wc.cell? ⟨gb398,2,none⟩ = some (.bool ((rd_T26 l0 x12_1).f2)):=(blk_cell BK398.out 2).trans rfl
          have hcz15_3 : wc.cell? ⟨gb398,3,none⟩ = some (.int .i64 ((rd_T26 l0 x12_1).f3)):=(blk_cell BK398.out 3).trans rfl
          have hfz15_0:=blk_frozen BK398.out 0
          have hfz15_1:=blk_frozen BK398.out 1
          have hfz15_2:=blk_frozen BK398.out 2
          have hfz15_3:=blk_frozen BK398.out 3
          go_wp2
          go_roundg kj6
          case measure => have:=HK1.out;have:=HJ6.out;omega
          case rel => exact ⟨(Go.bits .or .i64 x7_1 ((rd_T26 l0 x12_1).f3)),(wrap64 (x12_1 + 1)),(by rfl),(by rfl),H',⟨by have:=HK1.out;have:=HJ6.out;omega⟩,⟨by exact HB.out⟩⟩
         ·rw [if_neg c14] at H
          have c14b0 : ((rd_T26 l0 x12_1).f2) = false:=by simpa using c14
          clear c14
          have H':=Aside0.mk H
          clear H
          have hcz16_0 : wc.cell? ⟨gb398,0,none⟩ = some (.int .i64 ((rd_T26 l0 x12_1).f0)):=(blk_cell BK398.out 0).trans rfl
          have hcz16_1 : wc.cell? ⟨gb398,1,none⟩ = some (.string ((rd_T26 l0 x12_1).f1)):=(blk_cell BK398.out 1).trans rfl
          have hcz16_2 : wc.cell? ⟨gb398,2,none⟩ = some (.bool ((rd_T26 l0 x12_1).f2)):=(blk_cell BK398.out 2).trans rfl
          have hcz16_3 : wc.cell? ⟨gb398,3,none⟩ = some (.int .i64 ((rd_T26 l0 x12_1).f3)):=(blk_cell BK398.out 3).trans rfl
          have hfz16_0:=blk_frozen BK398.out 0
          have hfz16_1:=blk_frozen BK398.out 1
          have hfz16_2:=blk_frozen BK398.out 2
          have hfz16_3:=blk_frozen BK398.out 3
          go_wp2
          go_roundg kj6
          case measure => have:=HK1.out;have:=HJ6.out;omega
          case rel => exact ⟨(Go.bits .andNot .i64 x7_1 ((rd_T26 l0 x12_1).f3)),(wrap64 (x12_1 + 1)),(by rfl),(by rfl),H',⟨by have:=HK1.out;have:=HJ6.out;omega⟩,⟨by exact HB.out⟩⟩
     ·rw [if_neg c6] at H
      exact absurd H (by simp)
    ·rw [if_neg c5] at H
     exact absurd H (by simp)
   ·rw [if_neg c4] at H
    have c4b0 : decide (x12_1 < (l0.length : Int)) = false:=decide_eq_false c4
    clear c4
    obtain rfl:=Option.some.inj H
    go_wp2
    go_ret
    exact ⟨by rfl,by exact HB.out⟩

/-! ### impl_HeldHours: function 14 -/
mutual
def impl_HeldHours.j0 : Nat → List (S26) → ByteArray → Int → Int → Bool → Option (Int × Bool)
 | 0,_,_,_,_,_ => none
 | k + 1,x0,x1,x2,x3,x21 => if x21 = true then (some (0,false)) else (impl_HeldHours.l0 k x0 x1 x2 0 x3 0)
def impl_HeldHours.l0 : Nat → List (S26) → ByteArray → Int → Int → Int → Int → Option (Int × Bool)
 | 0,_,_,_,_,_,_ => none
 | k + 1,x0,x1,x2,x10,x22,x23 => if x23 < x22 then ((impl_holdsOn.f k x0 x1 x23).bind fun t401 => (if (Go.bits .and .i64 t401 x2) = 0 then (impl_HeldHours.l0 k x0 x1 x2 x10 x22 (wrap64 (x23 + 1))) else (impl_HeldHours.l0 k x0 x1 x2 (wrap64 (x10 + 1)) x22 (wrap64 (x23 + 1))))) else (some (x10,true))
end
def impl_HeldHours.f (k : Nat) (l0 : List (S26)) (a1 : ByteArray) (a2 : Int) (a3 : Int) : Option (Int × Bool):=(impl_isFileAt.f k l0 a1 a3).bind fun t399 => (if t399 = true then ((impl_isHold.f k a2).bind fun t400 => (impl_HeldHours.j0 k l0 a1 a2 a3 (!t400))) else (impl_HeldHours.j0 k l0 a1 a2 a3 true))
theorem impl_HeldHours.mono_l : ∀ k,(∀ y0 y1 y2 y3 y4,LeO (impl_HeldHours.j0 k y0 y1 y2 y3 y4) (impl_HeldHours.j0 (k + 1) y0 y1 y2 y3 y4)) ∧ (∀ y0 y1 y2 y3 y4 y5,LeO (impl_HeldHours.l0 k y0 y1 y2 y3 y4 y5) (impl_HeldHours.l0 (k + 1) y0 y1 y2 y3 y4 y5))
 | 0 => ⟨fun _ _ _ _ _ r h => by simp [impl_HeldHours.j0] at h,fun _ _ _ _ _ _ r h => by simp [impl_HeldHours.l0] at h⟩
 | k + 1 => by
  obtain ⟨ih0,ih1⟩ := impl_HeldHours.mono_l k
  refine ⟨?_, ?_⟩
  ·intro y0 y1 y2 y3 y4
   unfold impl_HeldHours.j0
   repeat' first
   | (with_reducible exact ih0 _ _ _ _ _)
   | (with_reducible exact ih1 _ _ _ _ _ _)
   | (with_reducible exact impl_holdsOn.mono _ _ _ _)
   | (with_reducible exact impl_isFileAt.mono _ _ _ _)
   | (with_reducible exact impl_isHold.mono _ _)
   | (with_reducible exact LeO.refl _)
   | (with_reducible exact LeO.none _)
   | (with_reducible refine LeO.ite ?_ ?_)
   | (with_reducible refine LeO.bind ?_ (fun _ => ?_))
   | exact ih0 _ _ _ _ _
   | exact ih1 _ _ _ _ _ _
   | exact impl_holdsOn.mono _ _ _ _
   | exact impl_isFileAt.mono _ _ _ _
   | exact impl_isHold.mono _ _
   | exact LeO.none _
   | refine LeO.ite ?_ ?_
   | refine LeO.bind ?_ (fun _ => ?_)
  ·intro y0 y1 y2 y3 y4 y5
   unfold impl_HeldHours.l0
   repeat' first
   | (with_reducible exact ih0 _ _ _ _ _)
   | (with_reducible exact ih1 _ _ _ _ _ _)
   | (with_reducible exact impl_holdsOn.mono _ _ _ _)
   | (with_reducible exact impl_isFileAt.mono _ _ _ _)
   | (with_reducible exact impl_isHold.mono _ _)
   | (with_reducible exact LeO.refl _)
   | (with_reducible exact LeO.none _)
   | (with_reducible refine LeO.ite ?_ ?_)
   | (with_reducible refine LeO.bind ?_ (fun _ => ?_))
   | exact ih0 _ _ _ _ _
   | exact ih1 _ _ _ _ _ _
   | exact impl_holdsOn.mono _ _ _ _
   | exact impl_isFileAt.mono _ _ _ _
   | exact impl_isHold.mono _ _
   | exact LeO.none _
   | refine LeO.ite ?_ ?_
   | refine LeO.bind ?_ (fun _ => ?_)
theorem impl_HeldHours.mono : ∀ a0 a1 a2 a3 k,LeO (impl_HeldHours.f k a0 a1 a2 a3) (impl_HeldHours.f (k + 1) a0 a1 a2 a3):=by
 intro a0 a1 a2 a3 k
 obtain ⟨ih0,ih1⟩ := impl_HeldHours.mono_l k
 unfold impl_HeldHours.f
 repeat' first
   | (with_reducible exact ih0 _ _ _ _ _)
   | (with_reducible exact ih1 _ _ _ _ _ _)
   | (with_reducible exact impl_holdsOn.mono _ _ _ _)
   | (with_reducible exact impl_isFileAt.mono _ _ _ _)
   | (with_reducible exact impl_isHold.mono _ _)
   | (with_reducible exact LeO.refl _)
   | (with_reducible exact LeO.none _)
   | (with_reducible refine LeO.ite ?_ ?_)
   | (with_reducible refine LeO.bind ?_ (fun _ => ?_))
   | exact ih0 _ _ _ _ _
   | exact ih1 _ _ _ _ _ _
   | exact impl_holdsOn.mono _ _ _ _
   | exact impl_isFileAt.mono _ _ _ _
   | exact impl_isHold.mono _ _
   | exact LeO.none _
   | refine LeO.ite ?_ ?_
   | refine LeO.bind ?_ (fun _ => ?_)
set_option maxHeartbeats 8000000 in
set_option maxRecDepth 100000 in
theorem impl_HeldHours.calls (k : Nat) (A0 : Option Addr) (c0 : Nat) (l0 : List (S26)) (a1 : ByteArray) (a2 : Int) (a3 : Int) (r1 : Int) (r2 : Bool) (w : World) (hr0 : Kd.C k26 w A0 l0.length l0) (hc0 : l0.length ≤ c0) (h : impl_HeldHours.f k l0 a1 a2 a3 = some (r1,r2)) :
  Calls Try.prog 14 #[.slice A0 l0.length c0, .string a1, .int .i64 a2, .int .i64 a3] w fun e w' => e = .returned (.tuple #[.int .i64 r1, .bool r2]) ∧ Below w.heap.size w w':=by
 have HR0:=Aside0.mk hr0
 have HC0:=Aside0.mk hc0
 clear hr0 hc0
 have HB:=Aside0.mk (Below.refl w.heap.size w)
 have H : ((impl_isFileAt.f k l0 a1 a3).bind fun t399 => (if t399 = true then ((impl_isHold.f k a2).bind fun t400 => (impl_HeldHours.j0 k l0 a1 a2 a3 (!t400))) else (impl_HeldHours.j0 k l0 a1 a2 a3 true))) = some (r1,r2):=h
 clear h
 have HC5:=Aside0.mk H
 clear H
 go_enter Try.func14,Try.ntmps14
 go_upto_region 1 with (fail)
 go_cut [21] (fun v21 wc => ∃ (kq : Nat) (x21_4 : Bool),v21 = .bool x21_4 ∧ Aside0 (impl_HeldHours.j0 kq l0 a1 a2 a3 x21_4 = some (r1,r2)) ∧ Aside0 (kq ≤ k) ∧ Aside0 (Below w.heap.size w wc))
 case first =>
  have H:=HC5.out
  clear HC5
  replace H:=Option.bind_eq_some_iff.mp H
  obtain ⟨t399,A60,H⟩ := H
  replace H : (if t399 = true then ((impl_isHold.f k a2).bind fun t400 => (impl_HeldHours.j0 k l0 a1 a2 a3 (!t400))) else (impl_HeldHours.j0 k l0 a1 a2 a3 true)) = some (r1,r2):=H
  have A6:=Aside0.mk A60
  clear A60
  by_cases c7 : t399 = true
  ·subst c7
   have H1 : ((impl_isHold.f k a2).bind fun t400 => (impl_HeldHours.j0 k l0 a1 a2 a3 (!t400))) = some (r1,r2):=by rw [if_pos rfl] at H;exact H
   clear H
   have H:=H1
   clear H1
   replace H:=Option.bind_eq_some_iff.mp H
   obtain ⟨t400,A80,H⟩ := H
   replace H : (impl_HeldHours.j0 k l0 a1 a2 a3 (!t400)) = some (r1,r2):=H
   have A8:=Aside0.mk A80
   clear A80
   have H':=Aside0.mk H
   clear H
   go_wp2_with (first | ((with_reducible refine gate_callee (f:=28) rfl ?_);refine goesL_ (some 15) rfl rfl Try.func28 (by kernel_rfl) rfl #[.slice A0 l0.length c0, .string a1, .int .i64 a3] rfl (by (try simp only [List.map_toArray,List.map_cons,List.map_nil]);rfl) ?_;(with_reducible refine (impl_isFileAt.calls k _ _ l0 a1 a3 true _ ?side1 ?side2 A6.out).mono ?_);(case side1 => repeat (exact (Kd.C_below HR0.out HB.out)));(case side2 => exact HC0.out);rintro e w9 ⟨rfl,hb⟩;refine ⟨_,rfl, ?_⟩;have n0_:=Aside0.mk (below_step (by exact HB.out) hb);clear HB;have HB:=n0_;clear n0_;(try clear hb)) | (go_at_call 29;(with_reducible refine (impl_isHold.calls k a2 t400 _ A8.out).mono ?_);rintro e w10 ⟨rfl,hb⟩;have n0_:=Aside0.mk (below_step (by exact HB.out) hb);clear HB;have HB:=n0_;clear n0_;(try clear hb)))
   go_meet
   case rel => exact ⟨_,(!t400),(by rfl),H',⟨by omega⟩,⟨by exact HB.out⟩⟩
  ·replace c7:=Bool.eq_false_iff.mpr c7
   subst c7
   have H1 : (impl_HeldHours.j0 k l0 a1 a2 a3 true) = some (r1,r2):=by rw [if_neg (show ¬ (false = true) by decide)] at H;exact H
   clear H
   have H:=H1
   clear H1
   have H':=Aside0.mk H
   clear H
   go_wp2_with (((with_reducible refine gate_callee (f:=28) rfl ?_);refine goesL_ (some 15) rfl rfl Try.func28 (by kernel_rfl) rfl #[.slice A0 l0.length c0, .string a1, .int .i64 a3] rfl (by (try simp only [List.map_toArray,List.map_cons,List.map_nil]);rfl) ?_;(with_reducible refine (impl_isFileAt.calls k _ _ l0 a1 a3 false _ ?side1 ?side2 A6.out).mono ?_);(case side1 => repeat (exact (Kd.C_below HR0.out HB.out)));(case side2 => exact HC0.out);rintro e w11 ⟨rfl,hb⟩;refine ⟨_,rfl, ?_⟩;have n0_:=Aside0.mk (below_step (by exact HB.out) hb);clear HB;have HB:=n0_;clear n0_;(try clear hb)))
   go_meet
   case rel => exact ⟨_,(true),(by rfl),H',⟨by omega⟩,⟨by exact HB.out⟩⟩
 case rest =>
  clear HC5
  try clear c1
  try clear c2
  try clear p2
  try clear c7
  obtain ⟨kq,x21_4,rfl,HA,HJ4,HB⟩ := hcut
  cases kq with
  | zero => exact absurd HA.out (by simp [impl_HeldHours.j0])
  | succ kj4 =>
   have H:=HA.out
   clear HA
   simp only [impl_HeldHours.j0] at H
   by_cases c12 : x21_4 = true
   ·subst c12
    have H1 : (some (0,false)) = some (r1,r2):=by rw [if_pos rfl] at H;exact H
    clear H
    have H:=H1
    clear H1
    simp only [Option.some.injEq,Prod.mk.injEq] at H
    obtain ⟨rfl,rfl⟩ := H
    go_wp2
    go_ret2
    exact ⟨by rfl,by exact HB.out⟩
   ·replace c12:=Bool.eq_false_iff.mpr c12
    subst c12
    have H1 : (impl_HeldHours.l0 kj4 l0 a1 a2 0 a3 0) = some (r1,r2):=by rw [if_neg (show ¬ (false = true) by decide)] at H;exact H
    clear H
    have H:=H1
    clear H1
    have H':=Aside0.mk H
    clear H
    go_wp2
    (skip)
    go_loopg [10,23] kj4 (fun kq v10 v23 w' => ∃ (x10_2 : Int) (x23_2 : Int),v10 = .int .i64 x10_2 ∧ v23 = .int .i64 x23_2 ∧ Aside0 (impl_HeldHours.l0 kq l0 a1 a2 x10_2 a3 x23_2 = some (r1,r2)) ∧ Aside0 (kq ≤ kj4) ∧ Aside0 (Below w.heap.size w w'))
    case atStart => exact ⟨(0),(0),(by rfl),(by rfl),H',⟨Nat.le_refl _⟩,⟨by exact HB.out⟩⟩
    case round =>
     clear H'
     try clear c1
     try clear c2
     try clear p2
     try clear c7
     try clear c12
     try clear p2
     obtain ⟨x10_2,x23_2,rfl,rfl,HA,HK2,HB⟩ := hrel
     cases gk with
     | zero => exact absurd HA.out (by simp [impl_HeldHours.l0])
     | succ k2 =>
      have H:=HA.out
      clear HA
      simp only [impl_HeldHours.l0] at H
      by_cases c13 : x23_2 < a3
      ·rw [if_pos c13] at H
       have c13b0 : decide (x23_2 < a3) = true:=decide_eq_true c13
       clear c13
       replace H:=Option.bind_eq_some_iff.mp H
       obtain ⟨t401,A140,H⟩ := H
       replace H : (if (Go.bits .and .i64 t401 a2) = 0 then (impl_HeldHours.l0 k2 l0 a1 a2 x10_2 a3 (wrap64 (x23_2 + 1))) else (impl_HeldHours.l0 k2 l0 a1 a2 (wrap64 (x10_2 + 1)) a3 (wrap64 (x23_2 + 1)))) = some (r1,r2):=H
       have A14:=Aside0.mk A140
       clear A140
       by_cases c15 : (Go.bits .and .i64 t401 a2) = 0
       ·rw [if_pos c15] at H
        have c15b0 : ((Go.bits .and .i64 t401 a2) == 0) = true:=beq_iff_eq.mpr c15
        have c15b1 : ((Go.bits .and .i64 t401 a2) != 0) = false:=bne_eq_false_iff_eq.mpr c15
        clear c15
        have H':=Aside0.mk H
        clear H
        go_wp2_with (((with_reducible refine gate_callee (f:=30) rfl ?_);refine goesL_ (some 29) rfl rfl Try.func30 (by kernel_rfl) rfl #[.slice A0 l0.length c0, .string a1, .int .i64 x23_2] rfl (by (try simp only [List.map_toArray,List.map_cons,List.map_nil]);rfl) ?_;(with_reducible refine (impl_holdsOn.calls k2 _ _ l0 a1 x23_2 t401 _ ?side1 ?side2 A14.out).mono ?_);(case side1 => repeat (exact (Kd.C_below HR0.out HB.out)));(case side2 => exact HC0.out);rintro e w16 ⟨rfl,hb⟩;refine ⟨_,rfl, ?_⟩;have n0_:=Aside0.mk (below_step (by exact HB.out) hb);clear HB;have HB:=n0_;clear n0_;(try clear hb)))
        go_roundg k2
        case measure => have:=HJ4.out;have:=HK2.out;omega
        case rel => exact ⟨(x10_2),(wrap64 (x23_2 + 1)),(by rfl),(by rfl),H',⟨by have:=HJ4.out;have:=HK2.out;omega⟩,⟨by exact HB.out⟩⟩
       ·rw [if_neg c15] at H
        have c15b0 : ((Go.bits .and .i64 t401 a2) == 0) = false:=beq_eq_false_iff_ne.mpr c15
        have c15b1 : ((Go.bits .and .i64 t401 a2) != 0) = true:=bne_iff_ne.mpr c15
        have H':=Aside0.mk H
        clear H
        go_wp2_with (((with_reducible refine gate_callee (f:=30) rfl ?_);refine goesL_ (some 29) rfl rfl Try.func30 (by kernel_rfl) rfl #[.slice A0 l0.length c0, .string a1, .int .i64 x23_2] rfl (by (try simp only [List.map_toArray,List.map_cons,List.map_nil]);rfl) ?_;(with_reducible refine (impl_holdsOn.calls k2 _ _ l0 a1 x23_2 t401 _ ?side1 ?side2 A14.out).mono ?_);(case side1 => repeat (exact (Kd.C_below HR0.out HB.out)));(case side2 => exact HC0.out);rintro e w17 ⟨rfl,hb⟩;refine ⟨_,rfl, ?_⟩;have n0_:=Aside0.mk (below_step (by exact HB.out) hb);clear HB;have HB:=n0_;clear n0_;(try clear hb)))
        go_roundg k2
        case measure => have:=HJ4.out;have:=HK2.out;omega
        case rel => exact ⟨(wrap64 (x10_2 + 1)),(wrap64 (x23_2 + 1)),(by rfl),(by rfl),H',⟨by have:=HJ4.out;have:=HK2.out;omega⟩,⟨by exact HB.out⟩⟩
      ·rw [if_neg c13] at H
       have c13b0 : decide (x23_2 < a3) = false:=decide_eq_false c13
       clear c13
       simp only [Option.some.injEq,Prod.mk.injEq] at H
       obtain ⟨rfl,rfl⟩ := H
       go_wp2
       go_ret2
       exact ⟨by rfl,by exact HB.out⟩

/-! ### spec_l1Has: function 32 -/
def spec_l1Has.l0 : Nat → List Int → Int → Int → Option (Bool)
 | 0,_,_,_ => none
 | k + 1,x0,x1,x5 => if x5 < (x0.length : Int) then (if 0 ≤ x5 then (if (rd x0 x5) = x1 then (some true) else (spec_l1Has.l0 k x0 x1 (wrap64 (x5 + 1)))) else (none)) else (some false)
def spec_l1Has.f (k : Nat) (l0 : List Int) (a1 : Int) : Option (Bool):=spec_l1Has.l0 k l0 a1 0
theorem spec_l1Has.mono_l : ∀ k,(∀ y0 y1 y2,LeO (spec_l1Has.l0 k y0 y1 y2) (spec_l1Has.l0 (k + 1) y0 y1 y2))
 | 0 => fun _ _ _ r h => by simp [spec_l1Has.l0] at h
 | k + 1 => by
  have ih0:=spec_l1Has.mono_l k
  ·intro y0 y1 y2
   unfold spec_l1Has.l0
   repeat' first
   | (with_reducible exact ih0 _ _ _)
   | (with_reducible exact LeO.refl _)
   | (with_reducible exact LeO.none _)
   | (with_reducible refine LeO.ite ?_ ?_)
   | (with_reducible refine LeO.bind ?_ (fun _ => ?_))
   | exact ih0 _ _ _
   | exact LeO.none _
   | refine LeO.ite ?_ ?_
   | refine LeO.bind ?_ (fun _ => ?_)
theorem spec_l1Has.mono : ∀ a0 a1 k,LeO (spec_l1Has.f k a0 a1) (spec_l1Has.f (k + 1) a0 a1):=by
 intro a0 a1 k
 have ih0:=spec_l1Has.mono_l k
 unfold spec_l1Has.f
 repeat' first
   | (with_reducible exact ih0 _ _ _)
   | (with_reducible exact LeO.refl _)
   | (with_reducible exact LeO.none _)
   | (with_reducible refine LeO.ite ?_ ?_)
   | (with_reducible refine LeO.bind ?_ (fun _ => ?_))
   | exact ih0 _ _ _
   | exact LeO.none _
   | refine LeO.ite ?_ ?_
   | refine LeO.bind ?_ (fun _ => ?_)
set_option maxHeartbeats 8000000 in
set_option maxRecDepth 100000 in
theorem spec_l1Has.calls (k : Nat) (A0 : Option Addr) (c0 : Nat) (l0 : List Int) (a1 : Int) (r : Bool) (w : World) (hr0 : Kd.C (Kd.int .i64) w A0 l0.length l0) (hc0 : l0.length ≤ c0) (h : spec_l1Has.f k l0 a1 = some r) :
  Calls Try.prog 32 #[.slice A0 l0.length c0, .int .i64 a1] w fun e w' => e = .returned (.bool r) ∧ Drawn0 w w':=by
 have HR0:=Aside0.mk hr0
 have HC0:=Aside0.mk hc0
 clear hr0 hc0
 have H : (spec_l1Has.l0 k l0 a1 0) = some r:=h
 clear h
 have H':=Aside0.mk H
 clear H
 go_enter Try.func32,Try.ntmps32
 go_wp2
 go_loopg [5] k (fun kq v5 w' => ∃ (x5_1 : Int),v5 = .int .i64 x5_1 ∧ Aside0 (spec_l1Has.l0 kq l0 a1 x5_1 = some r) ∧ Aside0 (kq ≤ k) ∧ Drawn0 w w')
 case atStart => exact ⟨(0),(by rfl),H',⟨Nat.le_refl _⟩,by repeat (exact Drawn0.refl _)⟩
 case round =>
  clear H'
  try clear p2
  obtain ⟨x5_1,rfl,HA,HK1,⟨m1,rfl⟩⟩ := hrel
  cases gk with
  | zero => exact absurd HA.out (by simp [spec_l1Has.l0])
  | succ k1 =>
   have H:=HA.out
   clear HA
   simp only [spec_l1Has.l0] at H
   by_cases c3 : x5_1 < (l0.length : Int)
   ·rw [if_pos c3] at H
    have c3b0 : decide (x5_1 < (l0.length : Int)) = true:=decide_eq_true c3
    clear c3
    by_cases c4 : 0 ≤ x5_1
    ·rw [if_pos c4] at H
     have c4b0 : decide (0 ≤ x5_1) = true:=decide_eq_true c4
     clear c4
     by_cases c5 : (rd l0 x5_1) = a1
     ·rw [if_pos c5] at H
      have c5b0 : ((rd l0 x5_1) == a1) = true:=beq_iff_eq.mpr c5
      have c5b1 : ((rd l0 x5_1) != a1) = false:=bne_eq_false_iff_eq.mpr c5
      clear c5
      obtain rfl:=Option.some.inj H
      have p402 : 0 ≤ (x5_1 : Int):=of_decide_eq_true (by (with_reducible assumption))
      have q402 : x5_1 < (l0.length : Int):=of_decide_eq_true (by (with_reducible assumption))
      obtain ⟨ad402,e402,hx402_0⟩ := Kd.at_int HR0.out x5_1 p402 q402
      cases e402
      replace p402:=eq_true p402
      replace q402:=eq_true q402
      go_wp2
      go_ret
      exact ⟨by rfl,by repeat (first | exact Drawn0.refl _ | apply Drawn0.step)⟩
     ·rw [if_neg c5] at H
      have c5b0 : ((rd l0 x5_1) == a1) = false:=beq_eq_false_iff_ne.mpr c5
      have c5b1 : ((rd l0 x5_1) != a1) = true:=bne_iff_ne.mpr c5
      have H':=Aside0.mk H
      clear H
      have p402 : 0 ≤ (x5_1 : Int):=of_decide_eq_true (by (with_reducible assumption))
      have q402 : x5_1 < (l0.length : Int):=of_decide_eq_true (by (with_reducible assumption))
      obtain ⟨ad402,e402,hx402_0⟩ := Kd.at_int HR0.out x5_1 p402 q402
      cases e402
      replace p402:=eq_true p402
      replace q402:=eq_true q402
      go_wp2
      go_roundg k1
      case measure => have:=HK1.out;omega
      case rel => exact ⟨(wrap64 (x5_1 + 1)),(by rfl),H',⟨by have:=HK1.out;omega⟩,by repeat (first | exact Drawn0.refl _ | apply Drawn0.step)⟩
    ·rw [if_neg c4] at H
     exact absurd H (by simp)
   ·rw [if_neg c3] at H
    have c3b0 : decide (x5_1 < (l0.length : Int)) = false:=decide_eq_false c3
    clear c3
    obtain rfl:=Option.some.inj H
    go_wp2
    go_ret
    exact ⟨by rfl,by repeat (first | exact Drawn0.refl _ | apply Drawn0.step)⟩

/-! ### spec_l20Hour: function 33 -/
def spec_l20Hour.f (a0 : Int) : Option (Bool):=(spec_l1In.f a0 0 240).bind fun t403 => (some t403)
set_option maxHeartbeats 8000000 in
set_option maxRecDepth 100000 in
theorem spec_l20Hour.calls (a0 : Int) (r : Bool) (w : World) (h : spec_l20Hour.f a0 = some r) :
  Calls Try.prog 33 #[.int .i64 a0] w fun e w' => e = .returned (.bool r) ∧ Drawn0 w w':=by
 have H : ((spec_l1In.f a0 0 240).bind fun t403 => (some t403)) = some r:=h
 clear h
 replace H:=Option.bind_eq_some_iff.mp H
 obtain ⟨t403,A20,H⟩ := H
 replace H : (some t403) = some r:=H
 have A2:=Aside0.mk A20
 clear A20
 obtain rfl:=Option.some.inj H
 go_enter Try.func33,Try.ntmps33
 go_wp2_with (((with_reducible refine gate_callee (f:=40) rfl ?_);refine goesL_ (some 4) rfl rfl Try.func40 (by kernel_rfl) rfl #[.int .i64 a0, .int .i64 0, .int .i64 240] rfl (by (try simp only [List.map_toArray,List.map_cons,List.map_nil]);rfl) ?_;(with_reducible refine (spec_l1In.calls a0 0 240 t403 _ A2.out).mono ?_);rintro e w' ⟨rfl,⟨nd,rfl⟩⟩;refine ⟨_,rfl, ?_⟩))
 go_ret
 exact ⟨by rfl,by repeat (first | exact Drawn0.refl _ | apply Drawn0.step)⟩

/-! ### spec_l20By: function 35 -/
def spec_l20By.l0 : Nat → List (S26) → Int → Int → Option (Int)
 | 0,_,_,_ => none
 | k + 1,x0,x1,x5 => if x5 < (x0.length : Int) then (if 0 ≤ x5 then (if ((rd_T26 x0 x5).f0) ≤ x1 then (spec_l20By.l0 k x0 x1 (wrap64 (x5 + 1))) else (some x5)) else (none)) else (some x5)
def spec_l20By.f (k : Nat) (l0 : List (S26)) (a1 : Int) : Option (Int):=spec_l20By.l0 k l0 a1 0
theorem spec_l20By.mono_l : ∀ k,(∀ y0 y1 y2,LeO (spec_l20By.l0 k y0 y1 y2) (spec_l20By.l0 (k + 1) y0 y1 y2))
 | 0 => fun _ _ _ r h => by simp [spec_l20By.l0] at h
 | k + 1 => by
  have ih0:=spec_l20By.mono_l k
  ·intro y0 y1 y2
   unfold spec_l20By.l0
   repeat' first
   | (with_reducible exact ih0 _ _ _)
   | (with_reducible exact LeO.refl _)
   | (with_reducible exact LeO.none _)
   | (with_reducible refine LeO.ite ?_ ?_)
   | (with_reducible refine LeO.bind ?_ (fun _ => ?_))
   | exact ih0 _ _ _
   | exact LeO.none _
   | refine LeO.ite ?_ ?_
   | refine LeO.bind ?_ (fun _ => ?_)
theorem spec_l20By.mono : ∀ a0 a1 k,LeO (spec_l20By.f k a0 a1) (spec_l20By.f (k + 1) a0 a1):=by
 intro a0 a1 k
 have ih0:=spec_l20By.mono_l k
 unfold spec_l20By.f
 repeat' first
   | (with_reducible exact ih0 _ _ _)
   | (with_reducible exact LeO.refl _)
   | (with_reducible exact LeO.none _)
   | (with_reducible refine LeO.ite ?_ ?_)
   | (with_reducible refine LeO.bind ?_ (fun _ => ?_))
   | exact ih0 _ _ _
   | exact LeO.none _
   | refine LeO.ite ?_ ?_
   | refine LeO.bind ?_ (fun _ => ?_)
set_option maxHeartbeats 8000000 in
set_option maxRecDepth 100000 in
theorem spec_l20By.calls (k : Nat) (A0 : Option Addr) (c0 : Nat) (l0 : List (S26)) (a1 : Int) (r : Int) (w : World) (hr0 : Kd.C k26 w A0 l0.length l0) (hc0 : l0.length ≤ c0) (h : spec_l20By.f k l0 a1 = some r) :
  Calls Try.prog 35 #[.slice A0 l0.length c0, .int .i64 a1] w fun e w' => e = .returned (.int .i64 r) ∧ Drawn0 w w':=by
 have HR0:=Aside0.mk hr0
 have HC0:=Aside0.mk hc0
 clear hr0 hc0
 have H : (spec_l20By.l0 k l0 a1 0) = some r:=h
 clear h
 have H':=Aside0.mk H
 clear H
 go_enter Try.func35,Try.ntmps35
 go_wp2
 go_loopg [5] k (fun kq v5 w' => ∃ (x5_1 : Int),v5 = .int .i64 x5_1 ∧ Aside0 (spec_l20By.l0 kq l0 a1 x5_1 = some r) ∧ Aside0 (kq ≤ k) ∧ Drawn0 w w')
 case atStart => exact ⟨(0),(by rfl),H',⟨Nat.le_refl _⟩,by repeat (exact Drawn0.refl _)⟩
 case round =>
  clear H'
  try clear p2
  obtain ⟨x5_1,rfl,HA,HK1,⟨m1,rfl⟩⟩ := hrel
  cases gk with
  | zero => exact absurd HA.out (by simp [spec_l20By.l0])
  | succ k1 =>
   have H:=HA.out
   clear HA
   simp only [spec_l20By.l0] at H
   by_cases c3 : x5_1 < (l0.length : Int)
   ·rw [if_pos c3] at H
    have c3b0 : decide (x5_1 < (l0.length : Int)) = true:=decide_eq_true c3
    clear c3
    by_cases c4 : 0 ≤ x5_1
    ·rw [if_pos c4] at H
     have c4b0 : decide (0 ≤ x5_1) = true:=decide_eq_true c4
     clear c4
     by_cases c5 : ((rd_T26 l0 x5_1).f0) ≤ a1
     ·rw [if_pos c5] at H
      have c5b0 : decide (((rd_T26 l0 x5_1).f0) ≤ a1) = true:=decide_eq_true c5
      clear c5
      have H':=Aside0.mk H
      clear H
      have p404 : 0 ≤ (x5_1 : Int):=of_decide_eq_true (by (with_reducible assumption))
      have q404 : x5_1 < (l0.length : Int):=of_decide_eq_true (by (with_reducible assumption))
      obtain ⟨ad404,e404,hx404_0,hx404_1,hx404_2,hx404_3⟩ := at_T26 HR0.out x5_1 p404 q404
      cases e404
      replace p404:=eq_true p404
      replace q404:=eq_true q404
      go_wp2
      go_roundg k1
      case measure => have:=HK1.out;omega
      case rel => exact ⟨(wrap64 (x5_1 + 1)),(by rfl),H',⟨by have:=HK1.out;omega⟩,by repeat (first | exact Drawn0.refl _ | apply Drawn0.step)⟩
     ·rw [if_neg c5] at H
      have c5b0 : decide (((rd_T26 l0 x5_1).f0) ≤ a1) = false:=decide_eq_false c5
      clear c5
      obtain rfl:=Option.some.inj H
      have p404 : 0 ≤ (x5_1 : Int):=of_decide_eq_true (by (with_reducible assumption))
      have q404 : x5_1 < (l0.length : Int):=of_decide_eq_true (by (with_reducible assumption))
      obtain ⟨ad404,e404,hx404_0,hx404_1,hx404_2,hx404_3⟩ := at_T26 HR0.out x5_1 p404 q404
      cases e404
      replace p404:=eq_true p404
      replace q404:=eq_true q404
      go_wp2
      go_ret
      exact ⟨by rfl,by repeat (first | exact Drawn0.refl _ | apply Drawn0.step)⟩
    ·rw [if_neg c4] at H
     exact absurd H (by simp)
   ·rw [if_neg c3] at H
    have c3b0 : decide (x5_1 < (l0.length : Int)) = false:=decide_eq_false c3
    clear c3
    obtain rfl:=Option.some.inj H
    go_wp2
    go_ret
    exact ⟨by rfl,by repeat (first | exact Drawn0.refl _ | apply Drawn0.step)⟩

end Go.Proofs.Ytcjhmkhhhkcgkaa.PFnFiles
