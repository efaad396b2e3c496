-- Written by a program of this session, over the kit's print (wip/xprint.py)
import Derived.Test.YtpelcaijjdgnoaaDoorPFnReadingsx0
import Derived.Test.YtpelcaijjdgnoaaDoorPFnReadingsx2
import Derived.Test.YtpelcaijjdgnoaaDoorPFnReadingsx4
namespace Go.Proofs.YtpelcaijjdgnoaaDoor.PFnReadings
open Go.RowKit Go.Proofs.YtpelcaijjdgnoaaDoorW.PrintWords Go.Proofs.YtpelcaijjdgnoaaDoorW.PrintLast Go.Proofs.YtpelcaijjdgnoaaDoorW.PrintMore
attribute [local go_sem] max2_int min2_int max_two min_two max_three min_three max_four min_four   -- for this text's walks alone
set_option linter.unusedVariables false
set_option linter.unusedSimpArgs false

/-! ### impl_LongestAlarm: function 12 -/
def impl_LongestAlarm.l0 : Nat → Int → Int → Int → Int → Bool → Int → List (S41) → Int → Int → Option (Int × Int × Bool)
 | 0,_,_,_,_,_,_,_,_,_ => none
 | k + 1,x1,x2,x9,x10,x11,x12,x20,x21,x22 => if x22 < x21 then (if 0 ≤ x22 then (if x22 < (x20.length : Int) then ((impl_size.f (wrap64 (((rd_T41 x20 x22).f1) - x1))).bind fun t256 => (if t256 ≤ x2 then (impl_LongestAlarm.l0 k x1 x2 x9 x10 x11 (-1) x20 x21 (wrap64 (x22 + 1))) else (if x12 < 0 then (if x11 = true then (if (wrap64 (((rd_T41 x20 x22).f0) - ((rd_T41 x20 x22).f0))) > (wrap64 (x10 - x9)) then (impl_LongestAlarm.l0 k x1 x2 ((rd_T41 x20 x22).f0) ((rd_T41 x20 x22).f0) true ((rd_T41 x20 x22).f0) x20 x21 (wrap64 (x22 + 1))) else (impl_LongestAlarm.l0 k x1 x2 x9 x10 x11 ((rd_T41 x20 x22).f0) x20 x21 (wrap64 (x22 + 1)))) else (impl_LongestAlarm.l0 k x1 x2 ((rd_T41 x20 x22).f0) ((rd_T41 x20 x22).f0) true ((rd_T41 x20 x22).f0) x20 x21 (wrap64 (x22 + 1)))) else (if x11 = true then (if (wrap64 (((rd_T41 x20 x22).f0) - x12)) > (wrap64 (x10 - x9)) then (impl_LongestAlarm.l0 k x1 x2 x12 ((rd_T41 x20 x22).f0) true x12 x20 x21 (wrap64 (x22 + 1))) else (impl_LongestAlarm.l0 k x1 x2 x9 x10 x11 x12 x20 x21 (wrap64 (x22 + 1)))) else (impl_LongestAlarm.l0 k x1 x2 x12 ((rd_T41 x20 x22).f0) true x12 x20 x21 (wrap64 (x22 + 1))))))) else (none)) else (none)) else (some (x9,x10,x11))
def impl_LongestAlarm.f (k : Nat) (l0 : List (S41)) (a1 : Int) (a2 : Int) : Option (Int × Int × Bool):=(impl_isSetting.f k l0 a1 a2).bind fun t253 => (if t253 = true then (impl_LongestAlarm.l0 k a1 a2 0 0 false (-1) l0 (l0.length : Int) 0) else (some (0,0,false)))
theorem impl_LongestAlarm.mono_l : ∀ k,(∀ y0 y1 y2 y3 y4 y5 y6 y7 y8,LeO (impl_LongestAlarm.l0 k y0 y1 y2 y3 y4 y5 y6 y7 y8) (impl_LongestAlarm.l0 (k + 1) y0 y1 y2 y3 y4 y5 y6 y7 y8))
 | 0 => fun _ _ _ _ _ _ _ _ _ r h => by simp [impl_LongestAlarm.l0] at h
 | k + 1 => by
  have ih0:=impl_LongestAlarm.mono_l k
  ·intro y0 y1 y2 y3 y4 y5 y6 y7 y8
   unfold impl_LongestAlarm.l0
   repeat' first
   | (with_reducible exact ih0 _ _ _ _ _ _ _ _ _)
   | (with_reducible exact impl_isSetting.mono _ _ _ _)
   | (with_reducible exact LeO.refl _)
   | (with_reducible exact LeO.none _)
   | (with_reducible refine LeO.ite ?_ ?_)
   | (with_reducible refine LeO.bind ?_ (fun _ => ?_))
   | exact ih0 _ _ _ _ _ _ _ _ _
   | exact impl_isSetting.mono _ _ _ _
   | exact LeO.none _
   | refine LeO.ite ?_ ?_
   | refine LeO.bind ?_ (fun _ => ?_)
theorem impl_LongestAlarm.mono : ∀ a0 a1 a2 k,LeO (impl_LongestAlarm.f k a0 a1 a2) (impl_LongestAlarm.f (k + 1) a0 a1 a2):=by
 intro a0 a1 a2 k
 have ih0:=impl_LongestAlarm.mono_l k
 unfold impl_LongestAlarm.f
 repeat' first
   | (with_reducible exact ih0 _ _ _ _ _ _ _ _ _)
   | (with_reducible exact impl_isSetting.mono _ _ _ _)
   | (with_reducible exact LeO.refl _)
   | (with_reducible exact LeO.none _)
   | (with_reducible refine LeO.ite ?_ ?_)
   | (with_reducible refine LeO.bind ?_ (fun _ => ?_))
   | exact ih0 _ _ _ _ _ _ _ _ _
   | exact impl_isSetting.mono _ _ _ _
   | exact LeO.none _
   | refine LeO.ite ?_ ?_
   | refine LeO.bind ?_ (fun _ => ?_)
set_option maxHeartbeats 8000000 in
set_option maxRecDepth 100000 in
theorem impl_LongestAlarm.calls (k : Nat) (A0 : Option Addr) (c0 : Nat) (l0 : List (S41)) (a1 : Int) (a2 : Int) (r1 : Int) (r2 : Int) (r3 : Bool) (w : World) (hr0 : Kd.C k41 w A0 l0.length l0) (hc0 : l0.length ≤ c0) (h : impl_LongestAlarm.f k l0 a1 a2 = some (r1,r2,r3)) :
  Calls Tryd.prog 12 #[.slice A0 l0.length c0, .int .i64 a1, .int .i64 a2] w fun e w' => e = .returned (.tuple #[.int .i64 r1, .int .i64 r2, .bool r3]) ∧ Below w.heap.size w w':=by
 have hu41:=Tryd.underlying41
 have HR0:=Aside0.mk hr0
 have HC0:=Aside0.mk hc0
 clear hr0 hc0
 have HB:=Aside0.mk (Below.refl w.heap.size w)
 have H : ((impl_isSetting.f k l0 a1 a2).bind fun t253 => (if t253 = true then (impl_LongestAlarm.l0 k a1 a2 0 0 false (-1) l0 (l0.length : Int) 0) else (some (0,0,false)))) = some (r1,r2,r3):=h
 clear h
 replace H:=Option.bind_eq_some_iff.mp H
 obtain ⟨t253,A40,H⟩ := H
 replace H : (if t253 = true then (impl_LongestAlarm.l0 k a1 a2 0 0 false (-1) l0 (l0.length : Int) 0) else (some (0,0,false))) = some (r1,r2,r3):=H
 have A4:=Aside0.mk A40
 clear A40
 by_cases c5 : t253 = true
 ·subst c5
  have H1 : (impl_LongestAlarm.l0 k a1 a2 0 0 false (-1) l0 (l0.length : Int) 0) = some (r1,r2,r3):=by rw [if_pos rfl] at H;exact H
  clear H
  have H:=H1
  clear H1
  have H':=Aside0.mk H
  clear H
  go_enter Tryd.func12,Tryd.ntmps12
  go_wp2_with ((go_at_call 32;(with_reducible refine (impl_isSetting.calls k _ _ l0 a1 a2 true _ ?side1 ?side2 A4.out).mono ?_);(case side1 => repeat (exact HR0.out));(case side2 => exact HC0.out);rintro e w6 ⟨rfl,hb⟩;have n0_:=Aside0.mk (below_step (by exact HB.out) hb);clear HB;have HB:=n0_;clear n0_;(try clear hb)))
  repeat (go_quiet (fail);try go_wp2_with (fail))
  (skip)
  go_loopg [9,10,11,12,22] k (fun kq v9 v10 v11 v12 v22 w' => ∃ (x9_1 : Int) (x10_1 : Int) (x11_1 : Bool) (x12_1 : Int) (x22_1 : Int),v9 = .int .i64 x9_1 ∧ v10 = .int .i64 x10_1 ∧ v11 = .bool x11_1 ∧ v12 = .int .i64 x12_1 ∧ v22 = .int .i64 x22_1 ∧ Aside0 (impl_LongestAlarm.l0 kq a1 a2 x9_1 x10_1 x11_1 x12_1 l0 (l0.length : Int) x22_1 = some (r1,r2,r3)) ∧ Aside0 (kq ≤ k) ∧ Aside0 (Below w.heap.size w w'))
  case atStart => exact ⟨(0),(0),(false),((-1)),(0),(by rfl),(by rfl),(by rfl),(by rfl),(by rfl),H',⟨Nat.le_refl _⟩,⟨by exact HB.out⟩⟩
  case round =>
   clear H'
   try clear c1
   try clear p2
   try clear c5
   obtain ⟨x9_1,x10_1,x11_1,x12_1,x22_1,rfl,rfl,rfl,rfl,rfl,HA,HK1,HB⟩ := hrel
   cases gk with
   | zero => exact absurd HA.out (by simp [impl_LongestAlarm.l0])
   | succ k1 =>
    have H:=HA.out
    clear HA
    simp only [impl_LongestAlarm.l0] at H
    by_cases c7 : x22_1 < (l0.length : Int)
    ·rw [if_pos c7] at H
     have c7b0 : decide (x22_1 < (l0.length : Int)) = true:=decide_eq_true c7
     clear c7
     by_cases c8 : 0 ≤ x22_1
     ·rw [if_pos c8] at H
      have c8b0 : decide (0 ≤ x22_1) = true:=decide_eq_true c8
      clear c8
      by_cases c9 : x22_1 < (l0.length : Int)
      ·rw [if_pos c9] at H
       have c9b0 : decide (x22_1 < (l0.length : Int)) = true:=decide_eq_true c9
       clear c9
       replace H:=Option.bind_eq_some_iff.mp H
       obtain ⟨t256,A100,H⟩ := H
       replace H : (if t256 ≤ a2 then (impl_LongestAlarm.l0 k1 a1 a2 x9_1 x10_1 x11_1 (-1) l0 (l0.length : Int) (wrap64 (x22_1 + 1))) else (if x12_1 < 0 then (if x11_1 = true then (if (wrap64 (((rd_T41 l0 x22_1).f0) - ((rd_T41 l0 x22_1).f0))) > (wrap64 (x10_1 - x9_1)) then (impl_LongestAlarm.l0 k1 a1 a2 ((rd_T41 l0 x22_1).f0) ((rd_T41 l0 x22_1).f0) true ((rd_T41 l0 x22_1).f0) l0 (l0.length : Int) (wrap64 (x22_1 + 1))) else (impl_LongestAlarm.l0 k1 a1 a2 x9_1 x10_1 x11_1 ((rd_T41 l0 x22_1).f0) l0 (l0.length : Int) (wrap64 (x22_1 + 1)))) else (impl_LongestAlarm.l0 k1 a1 a2 ((rd_T41 l0 x22_1).f0) ((rd_T41 l0 x22_1).f0) true ((rd_T41 l0 x22_1).f0) l0 (l0.length : Int) (wrap64 (x22_1 + 1)))) else (if x11_1 = true then (if (wrap64 (((rd_T41 l0 x22_1).f0) - x12_1)) > (wrap64 (x10_1 - x9_1)) then (impl_LongestAlarm.l0 k1 a1 a2 x12_1 ((rd_T41 l0 x22_1).f0) true x12_1 l0 (l0.length : Int) (wrap64 (x22_1 + 1))) else (impl_LongestAlarm.l0 k1 a1 a2 x9_1 x10_1 x11_1 x12_1 l0 (l0.length : Int) (wrap64 (x22_1 + 1)))) else (impl_LongestAlarm.l0 k1 a1 a2 x12_1 ((rd_T41 l0 x22_1).f0) true x12_1 l0 (l0.length : Int) (wrap64 (x22_1 + 1)))))) = some (r1,r2,r3):=H
       have A10:=Aside0.mk A100
       clear A100
       by_cases c11 : t256 ≤ a2
       ·rw [if_pos c11] at H
        have c11b0 : decide (t256 ≤ a2) = true:=decide_eq_true c11
        clear c11
        have H':=Aside0.mk H
        clear H
        have p254 : 0 ≤ (x22_1 : Int):=of_decide_eq_true (by (with_reducible assumption))
        have q254 : x22_1 < (l0.length : Int):=of_decide_eq_true (by (with_reducible assumption))
        obtain ⟨ad254,e254,hx254_0,hx254_1,hx254_2⟩ := at_T41 HR0.out x22_1 p254 q254
        cases e254
        replace hx254_0:=(HB.out.cell (World.block_lt_of_cell? w _ hx254_0)).trans hx254_0
        replace hx254_1:=(HB.out.cell (World.block_lt_of_cell? w _ hx254_1)).trans hx254_1
        replace hx254_2:=(HB.out.cell (World.block_lt_of_cell? w _ hx254_2)).trans hx254_2
        replace p254:=eq_true p254
        replace q254:=eq_true q254
        go_wp2_with (first | ((with_reducible refine gate_dst (N:=14) rfl ?_);refine box_event ?hg (N:=14) ?hd (cs:=#[.int .i64 0, .int .i64 0, .bool false]) (t:=41) ?hr ?_;(case hd => rfl);(case hg => rfl);(case hr => (go_simp;done));intro gb255 hg w12 hbox hb;have n0_:=Aside0.mk (below_step (by exact HB.out) hb);have n1_:=Aside0.mk (hbox);have n2_:=Aside0.mk ((by rw [hg];exact (below_size (by exact HB.out)) : w.heap.size ≤ gb255));have n3_:=Aside0.mk ((by rw [hg];exact (below_size (by exact HB.out)) : w.heap.size ≤ gb255));clear HB;have HB:=n0_;have BK255:=n1_;have GW255:=n2_;have GE255:=n3_;clear n0_ n1_ n2_ n3_;clear hb hbox hg;have hcz13_0 : w12.cell? ⟨gb255,0,none⟩ = some (.int .i64 0):=(blk_cell BK255.out 0).trans rfl;have hcz13_1 : w12.cell? ⟨gb255,1,none⟩ = some (.int .i64 0):=(blk_cell BK255.out 1).trans rfl;have hcz13_2 : w12.cell? ⟨gb255,2,none⟩ = some (.bool false):=(blk_cell BK255.out 2).trans rfl;have hfz13_0:=blk_frozen BK255.out 0;have hfz13_1:=blk_frozen BK255.out 1;have hfz13_2:=blk_frozen BK255.out 2) | (go_at_call 33;(with_reducible refine (impl_size.calls (wrap64 (((rd_T41 l0 x22_1).f1) - a1)) t256 _ A10.out).mono ?_);rintro e w14 ⟨rfl,hb⟩;have n0_:=Aside0.mk (blk_below (g:=gb255) (o := .cells #[.int .i64 ((rd_T41 l0 x22_1).f0), .int .i64 ((rd_T41 l0 x22_1).f1), .bool ((rd_T41 l0 x22_1).f2)] 41 (0,0)) (by refine blk_put (cs:=#[.int .i64 ((rd_T41 l0 x22_1).f0), .int .i64 ((rd_T41 l0 x22_1).f1), .bool false]) ?_ 2 _ rfl;refine blk_put (cs:=#[.int .i64 ((rd_T41 l0 x22_1).f0), .int .i64 0, .bool false]) ?_ 1 _ rfl;refine blk_put (cs:=#[.int .i64 0, .int .i64 0, .bool false]) ?_ 0 _ rfl;exact BK255.out) hb);have n1_:=Aside0.mk (below_step (by repeat ((with_reducible first | exact HB.out | refine below_set ?_ GE255.out))) hb);clear BK255;clear HB;have BK255:=n0_;have HB:=n1_;clear n0_ n1_;(try clear hb)))
        repeat (go_quiet (fail);try go_wp2_with (fail))
        go_roundg k1
        case measure => have:=HK1.out;omega
        case rel => exact ⟨(x9_1),(x10_1),(x11_1),((-1)),(wrap64 (x22_1 + 1)),(by rfl),(by rfl),(by rfl),(by rfl),(by rfl),H',⟨by have:=HK1.out;omega⟩,⟨by exact HB.out⟩⟩
       ·rw [if_neg c11] at H
        have c11b0 : decide (t256 ≤ a2) = false:=decide_eq_false c11
        clear c11
        by_cases c15 : x12_1 < 0
        ·rw [if_pos c15] at H
         have c15b0 : decide (x12_1 < 0) = true:=decide_eq_true c15
         clear c15
         by_cases c16 : x11_1 = true
         ·subst c16
          have H1 : (if (wrap64 (((rd_T41 l0 x22_1).f0) - ((rd_T41 l0 x22_1).f0))) > (wrap64 (x10_1 - x9_1)) then (impl_LongestAlarm.l0 k1 a1 a2 ((rd_T41 l0 x22_1).f0) ((rd_T41 l0 x22_1).f0) true ((rd_T41 l0 x22_1).f0) l0 (l0.length : Int) (wrap64 (x22_1 + 1))) else (impl_LongestAlarm.l0 k1 a1 a2 x9_1 x10_1 true ((rd_T41 l0 x22_1).f0) l0 (l0.length : Int) (wrap64 (x22_1 + 1)))) = some (r1,r2,r3):=by rw [if_pos rfl] at H;exact H
          clear H
          have H:=H1
          clear H1
          by_cases c17 : (wrap64 (((rd_T41 l0 x22_1).f0) - ((rd_T41 l0 x22_1).f0))) > (wrap64 (x10_1 - x9_1))
          ·rw [if_pos c17] at H
           have c17b0 : decide ((wrap64 (x10_1 - x9_1)) < (wrap64 (((rd_T41 l0 x22_1).f0) - ((rd_T41 l0 x22_1).f0)))) = true:=decide_eq_true c17
           have c17z0 : decide ((wrap64 (x10_1 - x9_1)) < 0) = true:=by have h_:=c17b0;rw [Int.sub_self,show wrap64 0 = 0 from by unfold wrap64;omega] at h_;exact h_
           clear c17
           have H':=Aside0.mk H
           clear H
           have p254 : 0 ≤ (x22_1 : Int):=of_decide_eq_true (by (with_reducible assumption))
           have q254 : x22_1 < (l0.length : Int):=of_decide_eq_true (by (with_reducible assumption))
           obtain ⟨ad254,e254,hx254_0,hx254_1,hx254_2⟩ := at_T41 HR0.out x22_1 p254 q254
           cases e254
           replace hx254_0:=(HB.out.cell (World.block_lt_of_cell? w _ hx254_0)).trans hx254_0
           replace hx254_1:=(HB.out.cell (World.block_lt_of_cell? w _ hx254_1)).trans hx254_1
           replace hx254_2:=(HB.out.cell (World.block_lt_of_cell? w _ hx254_2)).trans hx254_2
           replace p254:=eq_true p254
           replace q254:=eq_true q254
           go_wp2_with (first | ((with_reducible refine gate_dst (N:=14) rfl ?_);refine box_event ?hg (N:=14) ?hd (cs:=#[.int .i64 0, .int .i64 0, .bool false]) (t:=41) ?hr ?_;(case hd => rfl);(case hg => rfl);(case hr => (go_simp;done));intro gb255 hg w18 hbox hb;have n0_:=Aside0.mk (below_step (by exact HB.out) hb);have n1_:=Aside0.mk (hbox);have n2_:=Aside0.mk ((by rw [hg];exact (below_size (by exact HB.out)) : w.heap.size ≤ gb255));have n3_:=Aside0.mk ((by rw [hg];exact (below_size (by exact HB.out)) : w.heap.size ≤ gb255));clear HB;have HB:=n0_;have BK255:=n1_;have GW255:=n2_;have GE255:=n3_;clear n0_ n1_ n2_ n3_;clear hb hbox hg;have hcz19_0 : w18.cell? ⟨gb255,0,none⟩ = some (.int .i64 0):=(blk_cell BK255.out 0).trans rfl;have hcz19_1 : w18.cell? ⟨gb255,1,none⟩ = some (.int .i64 0):=(blk_cell BK255.out 1).trans rfl;have hcz19_2 : w18.cell? ⟨gb255,2,none⟩ = some (.bool false):=(blk_cell BK255.out 2).trans rfl;have hfz19_0:=blk_frozen BK255.out 0;have hfz19_1:=blk_frozen BK255.out 1;have hfz19_2:=blk_frozen BK255.out 2) | (go_at_call 33;(with_reducible refine (impl_size.calls (wrap64 (((rd_T41 l0 x22_1).f1) - a1)) t256 _ A10.out).mono ?_);rintro e w20 ⟨rfl,hb⟩;have n0_:=Aside0.mk (blk_below (g:=gb255) (o := .cells #[.int .i64 ((rd_T41 l0 x22_1).f0), .int .i64 ((rd_T41 l0 x22_1).f1), .bool ((rd_T41 l0 x22_1).f2)] 41 (0,0)) (by refine blk_put (cs:=#[.int .i64 ((rd_T41 l0 x22_1).f0), .int .i64 ((rd_T41 l0 x22_1).f1), .bool false]) ?_ 2 _ rfl;refine blk_put (cs:=#[.int .i64 ((rd_T41 l0 x22_1).f0), .int .i64 0, .bool false]) ?_ 1 _ rfl;refine blk_put (cs:=#[.int .i64 0, .int .i64 0, .bool false]) ?_ 0 _ rfl;exact BK255.out) hb);have n1_:=Aside0.mk (below_step (by repeat ((with_reducible first | exact HB.out | refine below_set ?_ GE255.out))) hb);clear BK255;clear HB;have BK255:=n0_;have HB:=n1_;clear n0_ n1_;(try clear hb);have hcz21_0 : w20.cell? ⟨gb255,0,none⟩ = some (.int .i64 ((rd_T41 l0 x22_1).f0)):=(blk_cell BK255.out 0).trans rfl;have hcz21_1 : w20.cell? ⟨gb255,1,none⟩ = some (.int .i64 ((rd_T41 l0 x22_1).f1)):=(blk_cell BK255.out 1).trans rfl;have hcz21_2 : w20.cell? ⟨gb255,2,none⟩ = some (.bool ((rd_T41 l0 x22_1).f2)):=(blk_cell BK255.out 2).trans rfl;have hfz21_0:=blk_frozen BK255.out 0;have hfz21_1:=blk_frozen BK255.out 1;have hfz21_2:=blk_frozen BK255.out 2))
           repeat (go_quiet (fail);try go_wp2_with (fail))
           go_roundg k1
           case measure => have:=HK1.out;omega
           case rel => exact ⟨((rd_T41 l0 x22_1).f0),((rd_T41 l0 x22_1).f0),(true),((rd_T41 l0 x22_1).f0),(wrap64 (x22_1 + 1)),(by rfl),(by rfl),(by rfl),(by rfl),(by rfl),H',⟨by have:=HK1.out;omega⟩,⟨by repeat ((with_reducible first | exact HB.out | apply pw_below_drewN))⟩⟩
          ·rw [if_neg c17] at H
           have c17b0 : decide ((wrap64 (x10_1 - x9_1)) < (wrap64 (((rd_T41 l0 x22_1).f0) - ((rd_T41 l0 x22_1).f0)))) = false:=decide_eq_false c17
           have c17z0 : decide ((wrap64 (x10_1 - x9_1)) < 0) = false:=by have h_:=c17b0;rw [Int.sub_self,show wrap64 0 = 0 from by unfold wrap64;omega] at h_;exact h_
           clear c17
           have H':=Aside0.mk H
           clear H
           have p254 : 0 ≤ (x22_1 : Int):=of_decide_eq_true (by (with_reducible assumption))
           have q254 : x22_1 < (l0.length : Int):=of_decide_eq_true (by (with_reducible assumption))
           obtain ⟨ad254,e254,hx254_0,hx254_1,hx254_2⟩ := at_T41 HR0.out x22_1 p254 q254
           cases e254
           replace hx254_0:=(HB.out.cell (World.block_lt_of_cell? w _ hx254_0)).trans hx254_0
           replace hx254_1:=(HB.out.cell (World.block_lt_of_cell? w _ hx254_1)).trans hx254_1
           replace hx254_2:=(HB.out.cell (World.block_lt_of_cell? w _ hx254_2)).trans hx254_2
           replace p254:=eq_true p254
           replace q254:=eq_true q254
           go_wp2_with (first | ((with_reducible refine gate_dst (N:=14) rfl ?_);refine box_event ?hg (N:=14) ?hd (cs:=#[.int .i64 0, .int .i64 0, .bool false]) (t:=41) ?hr ?_;(case hd => rfl);(case hg => rfl);(case hr => (go_simp;done));intro gb255 hg w22 hbox hb;have n0_:=Aside0.mk (below_step (by exact HB.out) hb);have n1_:=Aside0.mk (hbox);have n2_:=Aside0.mk ((by rw [hg];exact (below_size (by exact HB.out)) : w.heap.size ≤ gb255));have n3_:=Aside0.mk ((by rw [hg];exact (below_size (by exact HB.out)) : w.heap.size ≤ gb255));clear HB;have HB:=n0_;have BK255:=n1_;have GW255:=n2_;have GE255:=n3_;clear n0_ n1_ n2_ n3_;clear hb hbox hg;have hcz23_0 : w22.cell? ⟨gb255,0,none⟩ = some (.int .i64 0):=(blk_cell BK255.out 0).trans rfl;have hcz23_1 : w22.cell? ⟨gb255,1,none⟩ = some (.int .i64 0):=(blk_cell BK255.out 1).trans rfl;have hcz23_2 : w22.cell? ⟨gb255,2,none⟩ = some (.bool false):=(blk_cell BK255.out 2).trans rfl;have hfz23_0:=blk_frozen BK255.out 0;have hfz23_1:=blk_frozen BK255.out 1;have hfz23_2:=blk_frozen BK255.out 2) | (go_at_call 33;(with_reducible refine (impl_size.calls (wrap64 (((rd_T41 l0 x22_1).f1) - a1)) t256 _ A10.out).mono ?_);rintro e w24 ⟨rfl,hb⟩;have n0_:=Aside0.mk (blk_below (g:=gb255) (o := .cells #[.int .i64 ((rd_T41 l0 x22_1).f0), .int .i64 ((rd_T41 l0 x22_1).f1), .bool ((rd_T41 l0 x22_1).f2)] 41 (0,0)) (by refine blk_put (cs:=#[.int .i64 ((rd_T41 l0 x22_1).f0), .int .i64 ((rd_T41 l0 x22_1).f1), .bool false]) ?_ 2 _ rfl;refine blk_put (cs:=#[.int .i64 ((rd_T41 l0 x22_1).f0), .int .i64 0, .bool false]) ?_ 1 _ rfl;refine blk_put (cs:=#[.int .i64 0, .int .i64 0, .bool false]) ?_ 0 _ rfl;exact BK255.out) hb);have n1_:=Aside0.mk (below_step (by repeat ((with_reducible first | exact HB.out | refine below_set ?_ GE255.out))) hb);clear BK255;clear HB;have BK255:=n0_;have HB:=n1_;clear n0_ n1_;(try clear hb);have hcz25_0 : w24.cell? ⟨gb255,0,none⟩ = some (.int .i64 ((rd_T41 l0 x22_1).f0)):=(blk_cell BK255.out 0).trans rfl;have hcz25_1 : w24.cell? ⟨gb255,1,none⟩ = some (.int .i64 ((rd_T41 l0 x22_1).f1)):=(blk_cell BK255.out 1).trans rfl;have hcz25_2 : w24.cell? ⟨gb255,2,none⟩ = some (.bool ((rd_T41 l0 x22_1).f2)):=(blk_cell BK255.out 2).trans rfl;have hfz25_0:=blk_frozen BK255.out 0;have hfz25_1:=blk_frozen BK255.out 1;have hfz25_2:=blk_frozen BK255.out 2))
           repeat (go_quiet (fail);try go_wp2_with (fail))
           go_roundg k1
           case measure => have:=HK1.out;omega
           case rel => exact ⟨(x9_1),(x10_1),(true),((rd_T41 l0 x22_1).f0),(wrap64 (x22_1 + 1)),(by rfl),(by rfl),(by rfl),(by rfl),(by rfl),H',⟨by have:=HK1.out;omega⟩,⟨by exact HB.out⟩⟩
         ·replace c16:=Bool.eq_false_iff.mpr c16
          subst c16
          have H1 : (impl_LongestAlarm.l0 k1 a1 a2 ((rd_T41 l0 x22_1).f0) ((rd_T41 l0 x22_1).f0) true ((rd_T41 l0 x22_1).f0) l0 (l0.length : Int) (wrap64 (x22_1 + 1))) = some (r1,r2,r3):=by rw [if_neg (show ¬ (false = true) by decide)] at H;exact H
          clear H
          have H:=H1
          clear H1
          have H':=Aside0.mk H
          clear H
          have p254 : 0 ≤ (x22_1 : Int):=of_decide_eq_true (by (with_reducible assumption))
          have q254 : x22_1 < (l0.length : Int):=of_decide_eq_true (by (with_reducible assumption))
          obtain ⟨ad254,e254,hx254_0,hx254_1,hx254_2⟩ := at_T41 HR0.out x22_1 p254 q254
          cases e254
          replace hx254_0:=(HB.out.cell (World.block_lt_of_cell? w _ hx254_0)).trans hx254_0
          replace hx254_1:=(HB.out.cell (World.block_lt_of_cell? w _ hx254_1)).trans hx254_1
          replace hx254_2:=(HB.out.cell (World.block_lt_of_cell? w _ hx254_2)).trans hx254_2
          replace p254:=eq_true p254
          replace q254:=eq_true q254
          go_wp2_with (first | ((with_reducible refine gate_dst (N:=14) rfl ?_);refine box_event ?hg (N:=14) ?hd (cs:=#[.int .i64 0, .int .i64 0, .bool false]) (t:=41) ?hr ?_;(case hd => rfl);(case hg => rfl);(case hr => (go_simp;done));intro gb255 hg w26 hbox hb;have n0_:=Aside0.mk (below_step (by exact HB.out) hb);have n1_:=Aside0.mk (hbox);have n2_:=Aside0.mk ((by rw [hg];exact (below_size (by exact HB.out)) : w.heap.size ≤ gb255));have n3_:=Aside0.mk ((by rw [hg];exact (below_size (by exact HB.out)) : w.heap.size ≤ gb255));clear HB;have HB:=n0_;have BK255:=n1_;have GW255:=n2_;have GE255:=n3_;clear n0_ n1_ n2_ n3_;clear hb hbox hg;have hcz27_0 : w26.cell? ⟨gb255,0,none⟩ = some (.int .i64 0):=(blk_cell BK255.out 0).trans rfl;have hcz27_1 : w26.cell? ⟨gb255,1,none⟩ = some (.int .i64 0):=(blk_cell BK255.out 1).trans rfl;have hcz27_2 : w26.cell? ⟨gb255,2,none⟩ = some (.bool false):=(blk_cell BK255.out 2).trans rfl;have hfz27_0:=blk_frozen BK255.out 0;have hfz27_1:=blk_frozen BK255.out 1;have hfz27_2:=blk_frozen BK255.out 2) | (go_at_call 33;(with_reducible refine (impl_size.calls (wrap64 (((rd_T41 l0 x22_1).f1) - a1)) t256 _ A10.out).mono ?_);rintro e w28 ⟨rfl,hb⟩;have n0_:=Aside0.mk (blk_below (g:=gb255) (o := .cells #[.int .i64 ((rd_T41 l0 x22_1).f0), .int .i64 ((rd_T41 l0 x22_1).f1), .bool ((rd_T41 l0 x22_1).f2)] 41 (0,0)) (by refine blk_put (cs:=#[.int .i64 ((rd_T41 l0 x22_1).f0), .int .i64 ((rd_T41 l0 x22_1).f1), .bool false]) ?_ 2 _ rfl;refine blk_put (cs:=#[.int .i64 ((rd_T41 l0 x22_1).f0), .int .i64 0, .bool false]) ?_ 1 _ rfl;refine blk_put (cs:=#[.int .i64 0, .int .i64 0, .bool false]) ?_ 0 _ rfl;exact BK255.out) hb);have n1_:=Aside0.mk (below_step (by repeat ((with_reducible first | exact HB.out | refine below_set ?_ GE255.out))) hb);clear BK255;clear HB;have BK255:=n0_;have HB:=n1_;clear n0_ n1_;(try clear hb);have hcz29_0 : w28.cell? ⟨gb255,0,none⟩ = some (.int .i64 ((rd_T41 l0 x22_1).f0)):=(blk_cell BK255.out 0).trans rfl;have hcz29_1 : w28.cell? ⟨gb255,1,none⟩ = some (.int .i64 ((rd_T41 l0 x22_1).f1)):=(blk_cell BK255.out 1).trans rfl;have hcz29_2 : w28.cell? ⟨gb255,2,none⟩ = some (.bool ((rd_T41 l0 x22_1).f2)):=(blk_cell BK255.out 2).trans rfl;have hfz29_0:=blk_frozen BK255.out 0;have hfz29_1:=blk_frozen BK255.out 1;have hfz29_2:=blk_frozen BK255.out 2))
          repeat (go_quiet (fail);try go_wp2_with (fail))
          go_roundg k1
          case measure => have:=HK1.out;omega
          case rel => exact ⟨((rd_T41 l0 x22_1).f0),((rd_T41 l0 x22_1).f0),(true),((rd_T41 l0 x22_1).f0),(wrap64 (x22_1 + 1)),(by rfl),(by rfl),(by rfl),(by rfl),(by rfl),H',⟨by have:=HK1.out;omega⟩,⟨by repeat ((with_reducible first | exact HB.out | apply pw_below_drewN))⟩⟩
        ·rw [if_neg c15] at H
         have c15b0 : decide (x12_1 < 0) = false:=decide_eq_false c15
         clear c15
         by_cases c30 : x11_1 = true
         ·subst c30
          have H1 : (if (wrap64 (((rd_T41 l0 x22_1).f0) - x12_1)) > (wrap64 (x10_1 - x9_1)) then (impl_LongestAlarm.l0 k1 a1 a2 x12_1 ((rd_T41 l0 x22_1).f0) true x12_1 l0 (l0.length : Int) (wrap64 (x22_1 + 1))) else (impl_LongestAlarm.l0 k1 a1 a2 x9_1 x10_1 true x12_1 l0 (l0.length : Int) (wrap64 (x22_1 + 1)))) = some (r1,r2,r3):=by rw [if_pos rfl] at H;exact H
          clear H
          have H:=H1
          clear H1
          by_cases c31 : (wrap64 (((rd_T41 l0 x22_1).f0) - x12_1)) > (wrap64 (x10_1 - x9_1))
          ·rw [if_pos c31] at H
           have c31b0 : decide ((wrap64 (x10_1 - x9_1)) < (wrap64 (((rd_T41 l0 x22_1).f0) - x12_1))) = true:=decide_eq_true c31
           clear c31
           have H':=Aside0.mk H
           clear H
           have p254 : 0 ≤ (x22_1 : Int):=of_decide_eq_true (by (with_reducible assumption))
           have q254 : x22_1 < (l0.length : Int):=of_decide_eq_true (by (with_reducible assumption))
           obtain ⟨ad254,e254,hx254_0,hx254_1,hx254_2⟩ := at_T41 HR0.out x22_1 p254 q254
           cases e254
           replace hx254_0:=(HB.out.cell (World.block_lt_of_cell? w _ hx254_0)).trans hx254_0
           replace hx254_1:=(HB.out.cell (World.block_lt_of_cell? w _ hx254_1)).trans hx254_1
           replace hx254_2:=(HB.out.cell (World.block_lt_of_cell? w _ hx254_2)).trans hx254_2
           replace p254:=eq_true p254
           replace q254:=eq_true q254
           go_wp2_with (first | ((with_reducible refine gate_dst (N:=14) rfl ?_);refine box_event ?hg (N:=14) ?hd (cs:=#[.int .i64 0, .int .i64 0, .bool false]) (t:=41) ?hr ?_;(case hd => rfl);(case hg => rfl);(case hr => (go_simp;done));intro gb255 hg w32 hbox hb;have n0_:=Aside0.mk (below_step (by exact HB.out) hb);have n1_:=Aside0.mk (hbox);have n2_:=Aside0.mk ((by rw [hg];exact (below_size (by exact HB.out)) : w.heap.size ≤ gb255));have n3_:=Aside0.mk ((by rw [hg];exact (below_size (by exact HB.out)) : w.heap.size ≤ gb255));clear HB;have HB:=n0_;have BK255:=n1_;have GW255:=n2_;have GE255:=n3_;clear n0_ n1_ n2_ n3_;clear hb hbox hg;have hcz33_0 : w32.cell? ⟨gb255,0,none⟩ = some (.int .i64 0):=(blk_cell BK255.out 0).trans rfl;have hcz33_1 : w32.cell? ⟨gb255,1,none⟩ = some (.int .i64 0):=(blk_cell BK255.out 1).trans rfl;have hcz33_2 : w32.cell? ⟨gb255,2,none⟩ = some (.bool false):=(blk_cell BK255.out 2).trans rfl;have hfz33_0:=blk_frozen BK255.out 0;have hfz33_1:=blk_frozen BK255.out 1;have hfz33_2:=blk_frozen BK255.out 2) | (go_at_call 33;(with_reducible refine (impl_size.calls (wrap64 (((rd_T41 l0 x22_1).f1) - a1)) t256 _ A10.out).mono ?_);rintro e w34 ⟨rfl,hb⟩;have n0_:=Aside0.mk (blk_below (g:=gb255) (o := .cells #[.int .i64 ((rd_T41 l0 x22_1).f0), .int .i64 ((rd_T41 l0 x22_1).f1), .bool ((rd_T41 l0 x22_1).f2)] 41 (0,0)) (by refine blk_put (cs:=#[.int .i64 ((rd_T41 l0 x22_1).f0), .int .i64 ((rd_T41 l0 x22_1).f1), .bool false]) ?_ 2 _ rfl;refine blk_put (cs:=#[.int .i64 ((rd_T41 l0 x22_1).f0), .int .i64 0, .bool false]) ?_ 1 _ rfl;refine blk_put (cs:=#[.int .i64 0, .int .i64 0, .bool false]) ?_ 0 _ rfl;exact BK255.out) hb);have n1_:=Aside0.mk (below_step (by repeat ((with_reducible first | exact HB.out | refine below_set ?_ GE255.out))) hb);clear BK255;clear HB;have BK255:=n0_;have HB:=n1_;clear n0_ n1_;(try clear hb);have hcz35_0 : w34.cell? ⟨gb255,0,none⟩ = some (.int .i64 ((rd_T41 l0 x22_1).f0)):=(blk_cell BK255.out 0).trans rfl;have hcz35_1 : w34.cell? ⟨gb255,1,none⟩ = some (.int .i64 ((rd_T41 l0 x22_1).f1)):=(blk_cell BK255.out 1).trans rfl;have hcz35_2 : w34.cell? ⟨gb255,2,none⟩ = some (.bool ((rd_T41 l0 x22_1).f2)):=(blk_cell BK255.out 2).trans rfl;have hfz35_0:=blk_frozen BK255.out 0;have hfz35_1:=blk_frozen BK255.out 1;have hfz35_2:=blk_frozen BK255.out 2))
           repeat (go_quiet (fail);try go_wp2_with (fail))
           go_roundg k1
           case measure => have:=HK1.out;omega
           case rel => exact ⟨(x12_1),((rd_T41 l0 x22_1).f0),(true),(x12_1),(wrap64 (x22_1 + 1)),(by rfl),(by rfl),(by rfl),(by rfl),(by rfl),H',⟨by have:=HK1.out;omega⟩,⟨by repeat ((with_reducible first | exact HB.out | apply pw_below_drewN))⟩⟩
          ·rw [if_neg c31] at H
           have c31b0 : decide ((wrap64 (x10_1 - x9_1)) < (wrap64 (((rd_T41 l0 x22_1).f0) - x12_1))) = false:=decide_eq_false c31
           clear c31
           have H':=Aside0.mk H
           clear H
           have p254 : 0 ≤ (x22_1 : Int):=of_decide_eq_true (by (with_reducible assumption))
           have q254 : x22_1 < (l0.length : Int):=of_decide_eq_true (by (with_reducible assumption))
           obtain ⟨ad254,e254,hx254_0,hx254_1,hx254_2⟩ := at_T41 HR0.out x22_1 p254 q254
           cases e254
           replace hx254_0:=(HB.out.cell (World.block_lt_of_cell? w _ hx254_0)).trans hx254_0
           replace hx254_1:=(HB.out.cell (World.block_lt_of_cell? w _ hx254_1)).trans hx254_1
           replace hx254_2:=(HB.out.cell (World.block_lt_of_cell? w _ hx254_2)).trans hx254_2
           replace p254:=eq_true p254
           replace q254:=eq_true q254
           go_wp2_with (first | ((with_reducible refine gate_dst (N:=14) rfl ?_);refine box_event ?hg (N:=14) ?hd (cs:=#[.int .i64 0, .int .i64 0, .bool false]) (t:=41) ?hr ?_;(case hd => rfl);(case hg => rfl);(case hr => (go_simp;done));intro gb255 hg w36 hbox hb;have n0_:=Aside0.mk (below_step (by exact HB.out) hb);have n1_:=Aside0.mk (hbox);have n2_:=Aside0.mk ((by rw [hg];exact (below_size (by exact HB.out)) : w.heap.size ≤ gb255));have n3_:=Aside0.mk ((by rw [hg];exact (below_size (by exact HB.out)) : w.heap.size ≤ gb255));clear HB;have HB:=n0_;have BK255:=n1_;have GW255:=n2_;have GE255:=n3_;clear n0_ n1_ n2_ n3_;clear hb hbox hg;have hcz37_0 : w36.cell? ⟨gb255,0,none⟩ = some (.int .i64 0):=(blk_cell BK255.out 0).trans rfl;have hcz37_1 : w36.cell? ⟨gb255,1,none⟩ = some (.int .i64 0):=(blk_cell BK255.out 1).trans rfl;have hcz37_2 : w36.cell? ⟨gb255,2,none⟩ = some (.bool false):=(blk_cell BK255.out 2).trans rfl;have hfz37_0:=blk_frozen BK255.out 0;have hfz37_1:=blk_frozen BK255.out 1;have hfz37_2:=blk_frozen BK255.out 2) | (go_at_call 33;(with_reducible refine (impl_size.calls (wrap64 (((rd_T41 l0 x22_1).f1) - a1)) t256 _ A10.out).mono ?_);rintro e w38 ⟨rfl,hb⟩;have n0_:=Aside0.mk (blk_below (g:=gb255) (o := .cells #[.int .i64 ((rd_T41 l0 x22_1).f0), .int .i64 ((rd_T41 l0 x22_1).f1), .bool ((rd_T41 l0 x22_1).f2)] 41 (0,0)) (by refine blk_put (cs:=#[.int .i64 ((rd_T41 l0 x22_1).f0), .int .i64 ((rd_T41 l0 x22_1).f1), .bool false]) ?_ 2 _ rfl;refine blk_put (cs:=#[.int .i64 ((rd_T41 l0 x22_1).f0), .int .i64 0, .bool false]) ?_ 1 _ rfl;refine blk_put (cs:=#[.int .i64 0, .int .i64 0, .bool false]) ?_ 0 _ rfl;exact BK255.out) hb);have n1_:=Aside0.mk (below_step (by repeat ((with_reducible first | exact HB.out | refine below_set ?_ GE255.out))) hb);clear BK255;clear HB;have BK255:=n0_;have HB:=n1_;clear n0_ n1_;(try clear hb);have hcz39_0 : w38.cell? ⟨gb255,0,none⟩ = some (.int .i64 ((rd_T41 l0 x22_1).f0)):=(blk_cell BK255.out 0).trans rfl;have hcz39_1 : w38.cell? ⟨gb255,1,none⟩ = some (.int .i64 ((rd_T41 l0 x22_1).f1)):=(blk_cell BK255.out 1).trans rfl;have hcz39_2 : w38.cell? ⟨gb255,2,none⟩ = some (.bool ((rd_T41 l0 x22_1).f2)):=(blk_cell BK255.out 2).trans rfl;have hfz39_0:=blk_frozen BK255.out 0;have hfz39_1:=blk_frozen BK255.out 1;have hfz39_2:=blk_frozen BK255.out 2))
           repeat (go_quiet (fail);try go_wp2_with (fail))
           go_roundg k1
           case measure => have:=HK1.out;omega
           case rel => exact ⟨(x9_1),(x10_1),(true),(x12_1),(wrap64 (x22_1 + 1)),(by rfl),(by rfl),(by rfl),(by rfl),(by rfl),H',⟨by have:=HK1.out;omega⟩,⟨by exact HB.out⟩⟩
         ·replace c30:=Bool.eq_false_iff.mpr c30
          subst c30
          have H1 : (impl_LongestAlarm.l0 k1 a1 a2 x12_1 ((rd_T41 l0 x22_1).f0) true x12_1 l0 (l0.length : Int) (wrap64 (x22_1 + 1))) = some (r1,r2,r3):=by rw [if_neg (show ¬ (false = true) by decide)] at H;exact H
          clear H
          have H:=H1
          clear H1
          have H':=Aside0.mk H
          clear H
          have p254 : 0 ≤ (x22_1 : Int):=of_decide_eq_true (by (with_reducible assumption))
          have q254 : x22_1 < (l0.length : Int):=of_decide_eq_true (by (with_reducible assumption))
          obtain ⟨ad254,e254,hx254_0,hx254_1,hx254_2⟩ := at_T41 HR0.out x22_1 p254 q254
          cases e254
          replace hx254_0:=(HB.out.cell (World.block_lt_of_cell? w _ hx254_0)).trans hx254_0
          replace hx254_1:=(HB.out.cell (World.block_lt_of_cell? w _ hx254_1)).trans hx254_1
          replace hx254_2:=(HB.out.cell (World.block_lt_of_cell? w _ hx254_2)).trans hx254_2
          replace p254:=eq_true p254
          replace q254:=eq_true q254
          go_wp2_with (first | ((with_reducible refine gate_dst (N:=14) rfl ?_);refine box_event ?hg (N:=14) ?hd (cs:=#[.int .i64 0, .int .i64 0, .bool false]) (t:=41) ?hr ?_;(case hd => rfl);(case hg => rfl);(case hr => (go_simp;done));intro gb255 hg w40 hbox hb;have n0_:=Aside0.mk (below_step (by exact HB.out) hb);have n1_:=Aside0.mk (hbox);have n2_:=Aside0.mk ((by rw [hg];exact (below_size (by exact HB.out)) : w.heap.size ≤ gb255));have n3_:=Aside0.mk ((by rw [hg];exact (below_size (by exact HB.out)) : w.heap.size ≤ gb255));clear HB;have HB:=n0_;have BK255:=n1_;have GW255:=n2_;have GE255:=n3_;clear n0_ n1_ n2_ n3_;clear hb hbox hg;have hcz41_0 : w40.cell? ⟨gb255,0,none⟩ = some (.int .i64 0):=(blk_cell BK255.out 0).trans rfl;have hcz41_1 : w40.cell? ⟨gb255,1,none⟩ = some (.int .i64 0):=(blk_cell BK255.out 1).trans rfl;have hcz41_2 : w40.cell? ⟨gb255,2,none⟩ = some (.bool false):=(blk_cell BK255.out 2).trans rfl;have hfz41_0:=blk_frozen BK255.out 0;have hfz41_1:=blk_frozen BK255.out 1;have hfz41_2:=blk_frozen BK255.out 2) | (go_at_call 33;(with_reducible refine (impl_size.calls (wrap64 (((rd_T41 l0 x22_1).f1) - a1)) t256 _ A10.out).mono ?_);rintro e w42 ⟨rfl,hb⟩;have n0_:=Aside0.mk (blk_below (g:=gb255) (o := .cells #[.int .i64 ((rd_T41 l0 x22_1).f0), .int .i64 ((rd_T41 l0 x22_1).f1), .bool ((rd_T41 l0 x22_1).f2)] 41 (0,0)) (by refine blk_put (cs:=#[.int .i64 ((rd_T41 l0 x22_1).f0), .int .i64 ((rd_T41 l0 x22_1).f1), .bool false]) ?_ 2 _ rfl;refine blk_put (cs:=#[.int .i64 ((rd_T41 l0 x22_1).f0), .int .i64 0, .bool false]) ?_ 1 _ rfl;refine blk_put (cs:=#[.int .i64 0, .int .i64 0, .bool false]) ?_ 0 _ rfl;exact BK255.out) hb);have n1_:=Aside0.mk (below_step (by repeat ((with_reducible first | exact HB.out | refine below_set ?_ GE255.out))) hb);clear BK255;clear HB;have BK255:=n0_;have HB:=n1_;clear n0_ n1_;(try clear hb);have hcz43_0 : w42.cell? ⟨gb255,0,none⟩ = some (.int .i64 ((rd_T41 l0 x22_1).f0)):=(blk_cell BK255.out 0).trans rfl;have hcz43_1 : w42.cell? ⟨gb255,1,none⟩ = some (.int .i64 ((rd_T41 l0 x22_1).f1)):=(blk_cell BK255.out 1).trans rfl;have hcz43_2 : w42.cell? ⟨gb255,2,none⟩ = some (.bool ((rd_T41 l0 x22_1).f2)):=(blk_cell BK255.out 2).trans rfl;have hfz43_0:=blk_frozen BK255.out 0;have hfz43_1:=blk_frozen BK255.out 1;have hfz43_2:=blk_frozen BK255.out 2))
          repeat (go_quiet (fail);try go_wp2_with (fail))
          go_roundg k1
          case measure => have:=HK1.out;omega
          case rel => exact ⟨(x12_1),((rd_T41 l0 x22_1).f0),(true),(x12_1),(wrap64 (x22_1 + 1)),(by rfl),(by rfl),(by rfl),(by rfl),(by rfl),H',⟨by have:=HK1.out;omega⟩,⟨by repeat ((with_reducible first | exact HB.out | apply pw_below_drewN))⟩⟩
      ·rw [if_neg c9] at H
       exact absurd H (by simp)
     ·rw [if_neg c8] at H
      exact absurd H (by simp)
    ·rw [if_neg c7] at H
     have c7b0 : decide (x22_1 < (l0.length : Int)) = false:=decide_eq_false c7
     clear c7
     simp only [Option.some.injEq,Prod.mk.injEq] at H
     obtain ⟨rfl,rfl,rfl⟩ := H
     go_wp2
     repeat (go_quiet (fail);try go_wp2)
     go_ret3
     exact ⟨by rfl,by exact HB.out⟩
 ·replace c5:=Bool.eq_false_iff.mpr c5
  subst c5
  have H1 : (some (0,0,false)) = some (r1,r2,r3):=by rw [if_neg (show ¬ (false = true) by decide)] at H;exact H
  clear H
  have H:=H1
  clear H1
  simp only [Option.some.injEq,Prod.mk.injEq] at H
  obtain ⟨rfl,rfl,rfl⟩ := H
  go_enter Tryd.func12,Tryd.ntmps12
  go_wp2_with ((go_at_call 32;(with_reducible refine (impl_isSetting.calls k _ _ l0 a1 a2 false _ ?side1 ?side2 A4.out).mono ?_);(case side1 => repeat (exact HR0.out));(case side2 => exact HC0.out);rintro e w44 ⟨rfl,hb⟩;have n0_:=Aside0.mk (below_step (by exact HB.out) hb);clear HB;have HB:=n0_;clear n0_;(try clear hb)))
  repeat (go_quiet (fail);try go_wp2_with (fail))
  go_ret3
  exact ⟨by rfl,by exact HB.out⟩

end Go.Proofs.YtpelcaijjdgnoaaDoor.PFnReadings
