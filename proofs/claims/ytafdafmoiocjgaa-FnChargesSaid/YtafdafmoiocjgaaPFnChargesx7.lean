-- Written by a program of this session, over the kit's print (wip/xprint.py)
import Derived.Test.YtafdafmoiocjgaaPFnChargesx0
import Derived.Test.YtafdafmoiocjgaaPFnChargesx1
import Derived.Test.YtafdafmoiocjgaaPFnChargesx2
import Derived.Test.YtafdafmoiocjgaaPFnChargesx3
import Derived.Test.YtafdafmoiocjgaaPFnChargesx4
import Derived.Test.YtafdafmoiocjgaaPFnChargesx5
namespace Go.Proofs.Ytafdafmoiocjgaa.PFnCharges
open Go.RowKit Go.Proofs.YtafdafmoiocjgaaW.PrintWords Go.Proofs.YtafdafmoiocjgaaW.PrintLast Go.Proofs.YtafdafmoiocjgaaW.PrintMore
attribute [local go_sem] max2_int min2_int max_two min_two max_three min_three max_four min_four   -- for this text's walks alone
set_option linter.unusedVariables false
set_option linter.unusedSimpArgs false

/-! ### spec_LongestStay: function 22 -/
mutual
def spec_LongestStay.j0 : Nat → Int → Int → Bool → Int → List (S51) → Int → Option (Int × Bool)
 | 0,_,_,_,_,_,_ => none
 | k + 1,x1,x2,x18,x331000,x331001,x331002 => if x18 = true then (some (0,false)) else (spec_LongestStay.l0 k x1 x2 0 1 x331000 x331001 x331002)
def spec_LongestStay.l0 : Nat → Int → Int → Int → Int → Int → List (S51) → Int → Option (Int × Bool)
 | 0,_,_,_,_,_,_,_ => none
 | k + 1,x1,x2,x8,x9,x331000,x331001,x331002 => if x9 ≤ 400 then ((spec_l22Pay.f k x331000 x331001 x331002 x1 x9).bind fun t333 => (if t333 ≤ x2 then (spec_LongestStay.l0 k x1 x2 x9 (wrap64 (x9 + 1)) x331000 x331001 x331002) else (some (x8,true)))) else (some (x8,true))
end
def spec_LongestStay.f (k : Nat) (a0_0 : Int) (l0_1 : List (S51)) (a0_2 : Int) (a1 : Int) (a2 : Int) : Option (Int × Bool):=(spec_l22Asked.f k a0_0 l0_1 a0_2 a1 0).bind fun t331 => (if t331 = true then ((spec_l1In.f a2 0 10000000).bind fun t332 => (spec_LongestStay.j0 k a1 a2 (!t332) a0_0 l0_1 a0_2)) else (spec_LongestStay.j0 k a1 a2 true a0_0 l0_1 a0_2))
theorem spec_LongestStay.mono_l : ∀ k,(∀ y0 y1 y2 y3 y4 y5,LeO (spec_LongestStay.j0 k y0 y1 y2 y3 y4 y5) (spec_LongestStay.j0 (k + 1) y0 y1 y2 y3 y4 y5)) ∧ (∀ y0 y1 y2 y3 y4 y5 y6,LeO (spec_LongestStay.l0 k y0 y1 y2 y3 y4 y5 y6) (spec_LongestStay.l0 (k + 1) y0 y1 y2 y3 y4 y5 y6))
 | 0 => ⟨fun _ _ _ _ _ _ r h => by simp [spec_LongestStay.j0] at h,fun _ _ _ _ _ _ _ r h => by simp [spec_LongestStay.l0] at h⟩
 | k + 1 => by
  obtain ⟨ih0,ih1⟩ := spec_LongestStay.mono_l k
  refine ⟨?_, ?_⟩
  ·intro y0 y1 y2 y3 y4 y5
   unfold spec_LongestStay.j0
   repeat' first
   | (with_reducible exact ih0 _ _ _ _ _ _)
   | (with_reducible exact ih1 _ _ _ _ _ _ _)
   | (with_reducible exact spec_l22Asked.mono _ _ _ _ _ _)
   | (with_reducible exact spec_l22Pay.mono _ _ _ _ _ _)
   | (with_reducible exact LeO.refl _)
   | (with_reducible exact LeO.none _)
   | (with_reducible refine LeO.ite ?_ ?_)
   | (with_reducible refine LeO.bind ?_ (fun _ => ?_))
   | exact ih0 _ _ _ _ _ _
   | exact ih1 _ _ _ _ _ _ _
   | exact spec_l22Asked.mono _ _ _ _ _ _
   | exact spec_l22Pay.mono _ _ _ _ _ _
   | exact LeO.none _
   | refine LeO.ite ?_ ?_
   | refine LeO.bind ?_ (fun _ => ?_)
  ·intro y0 y1 y2 y3 y4 y5 y6
   unfold spec_LongestStay.l0
   repeat' first
   | (with_reducible exact ih0 _ _ _ _ _ _)
   | (with_reducible exact ih1 _ _ _ _ _ _ _)
   | (with_reducible exact spec_l22Asked.mono _ _ _ _ _ _)
   | (with_reducible exact spec_l22Pay.mono _ _ _ _ _ _)
   | (with_reducible exact LeO.refl _)
   | (with_reducible exact LeO.none _)
   | (with_reducible refine LeO.ite ?_ ?_)
   | (with_reducible refine LeO.bind ?_ (fun _ => ?_))
   | exact ih0 _ _ _ _ _ _
   | exact ih1 _ _ _ _ _ _ _
   | exact spec_l22Asked.mono _ _ _ _ _ _
   | exact spec_l22Pay.mono _ _ _ _ _ _
   | exact LeO.none _
   | refine LeO.ite ?_ ?_
   | refine LeO.bind ?_ (fun _ => ?_)
theorem spec_LongestStay.mono : ∀ a0 a1 a2 a3 a4 k,LeO (spec_LongestStay.f k a0 a1 a2 a3 a4) (spec_LongestStay.f (k + 1) a0 a1 a2 a3 a4):=by
 intro a0 a1 a2 a3 a4 k
 obtain ⟨ih0,ih1⟩ := spec_LongestStay.mono_l k
 unfold spec_LongestStay.f
 repeat' first
   | (with_reducible exact ih0 _ _ _ _ _ _)
   | (with_reducible exact ih1 _ _ _ _ _ _ _)
   | (with_reducible exact spec_l22Asked.mono _ _ _ _ _ _)
   | (with_reducible exact spec_l22Pay.mono _ _ _ _ _ _)
   | (with_reducible exact LeO.refl _)
   | (with_reducible exact LeO.none _)
   | (with_reducible refine LeO.ite ?_ ?_)
   | (with_reducible refine LeO.bind ?_ (fun _ => ?_))
   | exact ih0 _ _ _ _ _ _
   | exact ih1 _ _ _ _ _ _ _
   | exact spec_l22Asked.mono _ _ _ _ _ _
   | exact spec_l22Pay.mono _ _ _ _ _ _
   | exact LeO.none _
   | refine LeO.ite ?_ ?_
   | refine LeO.bind ?_ (fun _ => ?_)
set_option maxHeartbeats 8000000 in
set_option maxRecDepth 100000 in
theorem spec_LongestStay.calls (k : Nat) (a0_0 : Int) (A0_1 : Option Addr) (c0_1 : Nat) (l0_1 : List (S51)) (a0_2 : Int) (a1 : Int) (a2 : Int) (r1 : Int) (r2 : Bool) (w : World) (hr0_1 : Kd.C k51 w A0_1 l0_1.length l0_1) (hc0_1 : l0_1.length ≤ c0_1) (h : spec_LongestStay.f k a0_0 l0_1 a0_2 a1 a2 = some (r1,r2)) :
  Calls Try.prog 22 #[.agg #[.int .i64 a0_0, .slice A0_1 l0_1.length c0_1, .int .i64 a0_2], .int .i64 a1, .int .i64 a2] w fun e w' => e = .returned (.tuple #[.int .i64 r1, .bool r2]) ∧ Below w.heap.size w w':=by
 have hu38:=Try.underlying38
 have HR0_1:=Aside0.mk hr0_1
 have HC0_1:=Aside0.mk hc0_1
 clear hr0_1 hc0_1
 have HB:=Aside0.mk (Below.refl w.heap.size w)
 have H : ((spec_l22Asked.f k a0_0 l0_1 a0_2 a1 0).bind fun t331 => (if t331 = true then ((spec_l1In.f a2 0 10000000).bind fun t332 => (spec_LongestStay.j0 k a1 a2 (!t332) a0_0 l0_1 a0_2)) else (spec_LongestStay.j0 k a1 a2 true a0_0 l0_1 a0_2))) = some (r1,r2):=h
 clear h
 have HC4:=Aside0.mk H
 clear H
 go_enter Try.func22,Try.ntmps22
 go_upto_region 1 with (((with_reducible refine gate_dst (N:=3) rfl ?_);refine box_event ?hg (N:=3) ?hd (cs:=#[.int .i64 a0_0, .slice A0_1 l0_1.length c0_1, .int .i64 a0_2]) (t:=38) ?hr ?_;(case hd => rfl);(case hg => rfl);(case hr => (go_simp;done));intro gb330 hg w5 hbox hb;have n0_:=Aside0.mk (below_step (by exact HB.out) hb);have n1_:=Aside0.mk (hbox);have n2_:=Aside0.mk ((by rw [hg];exact (below_size (by exact HB.out)) : w.heap.size ≤ gb330));have n3_:=Aside0.mk ((by rw [hg];exact (below_size (by exact HB.out)) : w.heap.size ≤ gb330));clear HB;have HB:=n0_;have BK330:=n1_;have GW330:=n2_;have GE330:=n3_;clear n0_ n1_ n2_ n3_;clear hb hbox hg))
 (skip)
 go_cut [18] (fun v18 wc => ∃ (kq : Nat) (x18_3 : Bool),v18 = .bool x18_3 ∧ Aside0 (spec_LongestStay.j0 kq a1 a2 x18_3 a0_0 l0_1 a0_2 = some (r1,r2)) ∧ Aside0 (kq ≤ k) ∧ Aside0 (wc.heap[gb330]? = some (.cells #[.int .i64 a0_0,(.slice A0_1 l0_1.length c0_1), .int .i64 a0_2] 38 (0,0))) ∧ Aside0 (Below w.heap.size w wc))
 case first =>
  have H:=HC4.out
  clear HC4
  replace H:=Option.bind_eq_some_iff.mp H
  obtain ⟨t331,A60,H⟩ := H
  replace H : (if t331 = true then ((spec_l1In.f a2 0 10000000).bind fun t332 => (spec_LongestStay.j0 k a1 a2 (!t332) a0_0 l0_1 a0_2)) else (spec_LongestStay.j0 k a1 a2 true a0_0 l0_1 a0_2)) = some (r1,r2):=H
  have A6:=Aside0.mk A60
  clear A60
  by_cases c7 : t331 = true
  ·subst c7
   have H1 : ((spec_l1In.f a2 0 10000000).bind fun t332 => (spec_LongestStay.j0 k a1 a2 (!t332) a0_0 l0_1 a0_2)) = some (r1,r2):=by rw [if_pos rfl] at H;exact H
   clear H
   have H:=H1
   clear H1
   replace H:=Option.bind_eq_some_iff.mp H
   obtain ⟨t332,A80,H⟩ := H
   replace H : (spec_LongestStay.j0 k a1 a2 (!t332) a0_0 l0_1 a0_2) = some (r1,r2):=H
   have A8:=Aside0.mk A80
   clear A80
   have H':=Aside0.mk H
   clear H
   have hcz9_0 : w5.cell? ⟨gb330,0,none⟩ = some (.int .i64 a0_0):=(blk_cell BK330.out 0).trans rfl
   have hcz9_1 : w5.cell? ⟨gb330,1,none⟩ = some (.slice A0_1 l0_1.length c0_1):=(blk_cell BK330.out 1).trans rfl
   have hcz9_2 : w5.cell? ⟨gb330,2,none⟩ = some (.int .i64 a0_2):=(blk_cell BK330.out 2).trans rfl
   have hfz9_0:=blk_frozen BK330.out 0
   have hfz9_1:=blk_frozen BK330.out 1
   have hfz9_2:=blk_frozen BK330.out 2
   go_wp2_with (first | ((with_reducible refine gate_callee (f:=48) rfl ?_);refine goesL_ (some 12) rfl rfl Try.func48 (by kernel_rfl) rfl #[.agg #[.int .i64 a0_0, .slice A0_1 l0_1.length c0_1, .int .i64 a0_2], .int .i64 a1, .int .i64 0] rfl (by (try simp only [List.map_toArray,List.map_cons,List.map_nil]);rfl) ?_;(with_reducible refine (spec_l22Asked.calls k a0_0 _ _ l0_1 a0_2 a1 0 true _ ?side1 ?side2 A6.out).mono ?_);(case side1 => repeat (exact (Kd.C_below HR0_1.out HB.out)));(case side2 => exact HC0_1.out);rintro e w10 ⟨rfl,hb⟩;refine ⟨_,rfl, ?_⟩;have n0_:=Aside0.mk (blk_below (g:=gb330) (o := .cells #[.int .i64 a0_0, .slice A0_1 l0_1.length c0_1, .int .i64 a0_2] 38 (0,0)) (by exact BK330.out) hb);have n1_:=Aside0.mk (below_step (by exact HB.out) hb);clear BK330;clear HB;have BK330:=n0_;have HB:=n1_;clear n0_ n1_;(try clear hb)) | (go_at_call 41;(with_reducible refine (spec_l1In.calls a2 0 10000000 t332 _ A8.out).mono ?_);rintro e w' ⟨rfl,⟨nd,rfl⟩⟩))
   go_meet
   case rel => exact ⟨_,(!t332),(by rfl),H',⟨by omega⟩,⟨by (with_reducible repeat (refine blk_drewN ?_ _));exact BK330.out⟩,⟨by repeat ((with_reducible first | exact HB.out | apply pw_below_drewN))⟩⟩
  ·replace c7:=Bool.eq_false_iff.mpr c7
   subst c7
   have H1 : (spec_LongestStay.j0 k a1 a2 true a0_0 l0_1 a0_2) = some (r1,r2):=by rw [if_neg (show ¬ (false = true) by decide)] at H;exact H
   clear H
   have H:=H1
   clear H1
   have H':=Aside0.mk H
   clear H
   have hcz11_0 : w5.cell? ⟨gb330,0,none⟩ = some (.int .i64 a0_0):=(blk_cell BK330.out 0).trans rfl
   have hcz11_1 : w5.cell? ⟨gb330,1,none⟩ = some (.slice A0_1 l0_1.length c0_1):=(blk_cell BK330.out 1).trans rfl
   have hcz11_2 : w5.cell? ⟨gb330,2,none⟩ = some (.int .i64 a0_2):=(blk_cell BK330.out 2).trans rfl
   have hfz11_0:=blk_frozen BK330.out 0
   have hfz11_1:=blk_frozen BK330.out 1
   have hfz11_2:=blk_frozen BK330.out 2
   go_wp2_with (((with_reducible refine gate_callee (f:=48) rfl ?_);refine goesL_ (some 12) rfl rfl Try.func48 (by kernel_rfl) rfl #[.agg #[.int .i64 a0_0, .slice A0_1 l0_1.length c0_1, .int .i64 a0_2], .int .i64 a1, .int .i64 0] rfl (by (try simp only [List.map_toArray,List.map_cons,List.map_nil]);rfl) ?_;(with_reducible refine (spec_l22Asked.calls k a0_0 _ _ l0_1 a0_2 a1 0 false _ ?side1 ?side2 A6.out).mono ?_);(case side1 => repeat (exact (Kd.C_below HR0_1.out HB.out)));(case side2 => exact HC0_1.out);rintro e w12 ⟨rfl,hb⟩;refine ⟨_,rfl, ?_⟩;have n0_:=Aside0.mk (blk_below (g:=gb330) (o := .cells #[.int .i64 a0_0, .slice A0_1 l0_1.length c0_1, .int .i64 a0_2] 38 (0,0)) (by exact BK330.out) hb);have n1_:=Aside0.mk (below_step (by exact HB.out) hb);clear BK330;clear HB;have BK330:=n0_;have HB:=n1_;clear n0_ n1_;(try clear hb)))
   go_meet
   case rel => exact ⟨_,(true),(by rfl),H',⟨by omega⟩,⟨by exact BK330.out⟩,⟨by exact HB.out⟩⟩
 case rest =>
  clear HC4
  try clear c2
  try clear p2
  try clear c4
  try clear c7
  try clear hcz11_0
  try clear hcz11_1
  try clear hcz11_2
  try clear hcz9_0
  try clear hcz9_1
  try clear hcz9_2
  try clear hfz11_0
  try clear hfz11_1
  try clear hfz11_2
  try clear hfz9_0
  try clear hfz9_1
  try clear hfz9_2
  obtain ⟨kq,x18_3,rfl,HA,HJ3,BK330,HB⟩ := hcut
  cases kq with
  | zero => exact absurd HA.out (by simp [spec_LongestStay.j0])
  | succ kj3 =>
   have H:=HA.out
   clear HA
   simp only [spec_LongestStay.j0] at H
   by_cases c13 : x18_3 = true
   ·subst c13
    have H1 : (some (0,false)) = some (r1,r2):=by rw [if_pos rfl] at H;exact H
    clear H
    have H:=H1
    clear H1
    simp only [Option.some.injEq,Prod.mk.injEq] at H
    obtain ⟨rfl,rfl⟩ := H
    go_wp2
    go_ret2
    exact ⟨by rfl,by exact HB.out⟩
   ·replace c13:=Bool.eq_false_iff.mpr c13
    subst c13
    have H1 : (spec_LongestStay.l0 kj3 a1 a2 0 1 a0_0 l0_1 a0_2) = some (r1,r2):=by rw [if_neg (show ¬ (false = true) by decide)] at H;exact H
    clear H
    have H:=H1
    clear H1
    have H':=Aside0.mk H
    clear H
    go_wp2
    (skip)
    go_loopg [8,9] kj3 (fun kq v8 v9 w' => ∃ (x8_2 : Int) (x9_2 : Int),v8 = .int .i64 x8_2 ∧ v9 = .int .i64 x9_2 ∧ Aside0 (spec_LongestStay.l0 kq a1 a2 x8_2 x9_2 a0_0 l0_1 a0_2 = some (r1,r2)) ∧ Aside0 (kq ≤ kj3) ∧ Aside0 (w'.heap[gb330]? = some (.cells #[.int .i64 a0_0,(.slice A0_1 l0_1.length c0_1), .int .i64 a0_2] 38 (0,0))) ∧ Aside0 (Below w.heap.size w w'))
    case atStart => exact ⟨(0),(1),(by rfl),(by rfl),H',⟨Nat.le_refl _⟩,⟨by exact BK330.out⟩,⟨by exact HB.out⟩⟩
    case round =>
     clear H'
     try clear c1
     try clear c2
     try clear p2
     try clear c4
     try clear c7
     try clear c13
     try clear hcz11_0
     try clear hcz11_1
     try clear hcz11_2
     try clear hcz9_0
     try clear hcz9_1
     try clear hcz9_2
     try clear hfz11_0
     try clear hfz11_1
     try clear hfz11_2
     try clear hfz9_0
     try clear hfz9_1
     try clear hfz9_2
     try clear p2
     obtain ⟨x8_2,x9_2,rfl,rfl,HA,HK2,BK330,HB⟩ := hrel
     cases gk with
     | zero => exact absurd HA.out (by simp [spec_LongestStay.l0])
     | succ k2 =>
      have H:=HA.out
      clear HA
      simp only [spec_LongestStay.l0] at H
      by_cases c14 : x9_2 ≤ 400
      ·rw [if_pos c14] at H
       have c14b0 : decide (x9_2 ≤ 400) = true:=decide_eq_true c14
       clear c14
       replace H:=Option.bind_eq_some_iff.mp H
       obtain ⟨t333,A150,H⟩ := H
       replace H : (if t333 ≤ a2 then (spec_LongestStay.l0 k2 a1 a2 x9_2 (wrap64 (x9_2 + 1)) a0_0 l0_1 a0_2) else (some (x8_2,true))) = some (r1,r2):=H
       have A15:=Aside0.mk A150
       clear A150
       by_cases c16 : t333 ≤ a2
       ·rw [if_pos c16] at H
        have c16b0 : decide (t333 ≤ a2) = true:=decide_eq_true c16
        clear c16
        have H':=Aside0.mk H
        clear H
        have hcz17_0 : wr.cell? ⟨gb330,0,none⟩ = some (.int .i64 a0_0):=(blk_cell BK330.out 0).trans rfl
        have hcz17_1 : wr.cell? ⟨gb330,1,none⟩ = some (.slice A0_1 l0_1.length c0_1):=(blk_cell BK330.out 1).trans rfl
        have hcz17_2 : wr.cell? ⟨gb330,2,none⟩ = some (.int .i64 a0_2):=(blk_cell BK330.out 2).trans rfl
        have hfz17_0:=blk_frozen BK330.out 0
        have hfz17_1:=blk_frozen BK330.out 1
        have hfz17_2:=blk_frozen BK330.out 2
        go_wp2_with ((go_at_call 49;(with_reducible refine (spec_l22Pay.calls k2 a0_0 _ _ l0_1 a0_2 a1 x9_2 t333 _ ?side1 ?side2 A15.out).mono ?_);(case side1 => repeat (exact (Kd.C_below HR0_1.out HB.out)));(case side2 => exact HC0_1.out);rintro e w18 ⟨rfl,hb⟩;have n0_:=Aside0.mk (blk_below (g:=gb330) (o := .cells #[.int .i64 a0_0, .slice A0_1 l0_1.length c0_1, .int .i64 a0_2] 38 (0,0)) (by exact BK330.out) hb);have n1_:=Aside0.mk (below_step (by exact HB.out) hb);clear BK330;clear HB;have BK330:=n0_;have HB:=n1_;clear n0_ n1_;(try clear hb)))
        go_roundg k2
        case measure => have:=HJ3.out;have:=HK2.out;omega
        case rel => exact ⟨(x9_2),(wrap64 (x9_2 + 1)),(by rfl),(by rfl),H',⟨by have:=HJ3.out;have:=HK2.out;omega⟩,⟨by exact BK330.out⟩,⟨by exact HB.out⟩⟩
       ·rw [if_neg c16] at H
        have c16b0 : decide (t333 ≤ a2) = false:=decide_eq_false c16
        clear c16
        simp only [Option.some.injEq,Prod.mk.injEq] at H
        obtain ⟨rfl,rfl⟩ := H
        have hcz19_0 : wr.cell? ⟨gb330,0,none⟩ = some (.int .i64 a0_0):=(blk_cell BK330.out 0).trans rfl
        have hcz19_1 : wr.cell? ⟨gb330,1,none⟩ = some (.slice A0_1 l0_1.length c0_1):=(blk_cell BK330.out 1).trans rfl
        have hcz19_2 : wr.cell? ⟨gb330,2,none⟩ = some (.int .i64 a0_2):=(blk_cell BK330.out 2).trans rfl
        have hfz19_0:=blk_frozen BK330.out 0
        have hfz19_1:=blk_frozen BK330.out 1
        have hfz19_2:=blk_frozen BK330.out 2
        go_wp2_with ((go_at_call 49;(with_reducible refine (spec_l22Pay.calls k2 a0_0 _ _ l0_1 a0_2 a1 x9_2 t333 _ ?side1 ?side2 A15.out).mono ?_);(case side1 => repeat (exact (Kd.C_below HR0_1.out HB.out)));(case side2 => exact HC0_1.out);rintro e w20 ⟨rfl,hb⟩;have n0_:=Aside0.mk (blk_below (g:=gb330) (o := .cells #[.int .i64 a0_0, .slice A0_1 l0_1.length c0_1, .int .i64 a0_2] 38 (0,0)) (by exact BK330.out) hb);have n1_:=Aside0.mk (below_step (by exact HB.out) hb);clear BK330;clear HB;have BK330:=n0_;have HB:=n1_;clear n0_ n1_;(try clear hb)))
        go_ret2
        exact ⟨by rfl,by exact HB.out⟩
      ·rw [if_neg c14] at H
       have c14b0 : decide (x9_2 ≤ 400) = false:=decide_eq_false c14
       clear c14
       simp only [Option.some.injEq,Prod.mk.injEq] at H
       obtain ⟨rfl,rfl⟩ := H
       go_wp2
       go_ret2
       exact ⟨by rfl,by exact HB.out⟩

/-! ### spec_DrawRateOn: function 23 -/
def spec_DrawRateOn.f (k : Nat) (l0 : List Int) : Option (Int × (List (S51)) × Int × Int):=(spec_l1Cur_charge.f k l0 0 0).bind fun bt336 => ((spec_l1Cur_stay.f l0 bt336.2.2.2.1 bt336.2.2.2.2).bind fun bt344 => (some (bt336.1,bt336.2.1,bt336.2.2.1,bt344.1)))
theorem spec_DrawRateOn.mono : ∀ a0 k,LeO (spec_DrawRateOn.f k a0) (spec_DrawRateOn.f (k + 1) a0):=by
 intro a0 k
 unfold spec_DrawRateOn.f
 repeat' first
   | (with_reducible exact spec_l1Cur_charge.mono _ _ _ _)
   | (with_reducible exact LeO.refl _)
   | (with_reducible exact LeO.none _)
   | (with_reducible refine LeO.ite ?_ ?_)
   | (with_reducible refine LeO.bind ?_ (fun _ => ?_))
   | exact spec_l1Cur_charge.mono _ _ _ _
   | exact LeO.none _
   | refine LeO.ite ?_ ?_
   | refine LeO.bind ?_ (fun _ => ?_)
set_option maxHeartbeats 8000000 in
set_option maxRecDepth 100000 in
theorem spec_DrawRateOn.calls (k : Nat) (A0 : Option Addr) (c0 : Nat) (l0 : List Int) (r1 : Int) (r2 : List (S51)) (r3 : Int) (r4 : Int) (w : World) (hr0 : Kd.C (Kd.int .u8) w A0 l0.length l0) (hc0 : l0.length ≤ c0) (h : spec_DrawRateOn.f k l0 = some (r1,r2,r3,r4)) :
  Calls Try.prog 23 #[.slice A0 l0.length c0] w fun e w' => ∃ v1_ : Value,e = .returned (.tuple #[.agg #[.int .i64 r1,v1_, .int .i64 r3], .int .i64 r4]) ∧ Kd.R k51 51 w' w.heap.size (fun _ => True) v1_ r2 ∧ Below w.heap.size w w':=by
 have hu38:=Try.underlying38
 have hu58:=Try.underlying58
 have HR0:=Aside0.mk hr0
 have HC0:=Aside0.mk hc0
 clear hr0 hc0
 have HB:=Aside0.mk (Below.refl w.heap.size w)
 have H : ((spec_l1Cur_charge.f k l0 0 0).bind fun bt336 => ((spec_l1Cur_stay.f l0 bt336.2.2.2.1 bt336.2.2.2.2).bind fun bt344 => (some (bt336.1,bt336.2.1,bt336.2.2.1,bt344.1)))) = some (r1,r2,r3,r4):=h
 clear h
 replace H:=Option.bind_eq_some_iff.mp H
 obtain ⟨⟨t336,t337,t340,t341,t342⟩,A20,H⟩ := H
 replace H : ((spec_l1Cur_stay.f l0 t341 t342).bind fun bt344 => (some (t336,t337,t340,bt344.1))) = some (r1,r2,r3,r4):=H
 have A2:=Aside0.mk A20
 clear A20
 replace H:=Option.bind_eq_some_iff.mp H
 obtain ⟨⟨t344,t345,t346⟩,A30,H⟩ := H
 replace H : (some (t336,t337,t340,t344)) = some (r1,r2,r3,r4):=H
 have A3:=Aside0.mk A30
 clear A30
 simp only [Option.some.injEq,Prod.mk.injEq] at H
 obtain ⟨rfl,rfl,rfl,rfl⟩ := H
 go_enter Try.func23,Try.ntmps23
 try go_wp2_with (first | ((with_reducible refine gate_dst (N:=2) rfl ?_);refine box_event ?hg (N:=2) ?hd (cs:=#[.int .i64 0, .slice none 0 0, .int .i64 0]) (t:=38) ?hr ?_;(case hd => rfl);(case hg => rfl);(case hr => (go_simp;done));intro gb334 hg w4 hbox hb;have n0_:=Aside0.mk (below_step (by exact HB.out) hb);have n1_:=Aside0.mk (hbox);have n2_:=Aside0.mk ((by rw [hg];exact (below_size (by exact HB.out)) : w.heap.size ≤ gb334));have n3_:=Aside0.mk ((by rw [hg];exact (below_size (by exact HB.out)) : w.heap.size ≤ gb334));clear HB;have HB:=n0_;have BK334:=n1_;have GW334:=n2_;have GE334:=n3_;clear n0_ n1_ n2_ n3_;clear hb hbox hg) | ((with_reducible refine gate_dst (N:=8) rfl ?_);refine box_event ?hg (N:=8) ?hd (cs:=#[.slice A0 l0.length c0, .int .i64 0, .int .u64 0]) (t:=58) ?hr ?_;(case hd => rfl);(case hg => rfl);(case hr => (go_simp;done));intro gb335 hg w5 hbox hb;have n0_:=Aside0.mk (blk_below (g:=gb334) (o := .cells #[.int .i64 0, .slice none 0 0, .int .i64 0] 38 (0,0)) (by exact BK334.out) hb);have n1_:=Aside0.mk (below_step (by exact HB.out) hb);have n2_:=Aside0.mk ((by rw [hg];exact Nat.ne_of_lt (blk_lt (g:=gb334) (o := .cells #[.int .i64 0, .slice none 0 0, .int .i64 0] 38 (0,0)) (by exact BK334.out)) : gb334 ≠ gb335));have n3_:=Aside0.mk ((by rw [hg];exact Nat.ne_of_gt (blk_lt (g:=gb334) (o := .cells #[.int .i64 0, .slice none 0 0, .int .i64 0] 38 (0,0)) (by exact BK334.out)) : gb335 ≠ gb334));have n4_:=Aside0.mk ((show IsS58 w _ gb335 l0 0 0 from ⟨_,_,hbox,(by rw [hg];exact (below_size (by exact HB.out)) : w.heap.size ≤ gb335),HR0.out⟩));clear BK334;clear HB;have BK334:=n0_;have HB:=n1_;have NB334_335:=n2_;have NB335_334:=n3_;have HI335:=n4_;clear n0_ n1_ n2_ n3_ n4_;clear hb hbox hg) | ((with_reducible refine gate_callee (f:=43) rfl ?_);refine goesL_ (some 10) rfl rfl Try.func43 (by kernel_rfl) rfl #[.pointer (some ⟨gb335,0,none⟩)] rfl (by (try simp only [List.map_toArray,List.map_cons,List.map_nil]);rfl) ?_;(with_reducible refine (spec_l1Cur_charge.calls k gb335 l0 0 0 t336 t337 t340 t341 t342 w _ ?side1 ?side2 A2.out).mono ?_);(case side1 => exact HI335.out);(case side2 => exact HB.out);rintro e w6 ⟨v338,rfl,ho0,hi,hb,hk⟩;refine ⟨_,rfl, ?_⟩;have n0_:=Aside0.mk (KeepBut.blk hk (g':=gb334) (o := .cells #[.int .i64 0, .slice none 0 0, .int .i64 0] 38 (0,0)) (by exact BK334.out) NB334_335.out (by simp));have n1_:=Aside0.mk (Kd.R_lower ho0 (below_size (by exact HB.out)));have n2_:=Aside0.mk (hb);have n3_:=Aside0.mk (hi);clear BK334;clear HB;clear HI335;have BK334:=n0_;have HO339:=n1_;have HB:=n2_;have HI335:=n3_;clear n0_ n1_ n2_ n3_;(try clear hb);(try clear hk);(try clear hi);(try clear ho0)) | ((with_reducible refine gate_dst (N:=5) rfl ?_);refine box_event ?hg (N:=5) ?hd (cs:=#[.int .i64 0, .slice none 0 0, .int .i64 0]) (t:=38) ?hr ?_;(case hd => rfl);(case hg => rfl);(case hr => (go_simp;done));intro gb343 hg w7 hbox hb;have n0_:=Aside0.mk (Kd.R_below (by exact HO339.out) hb);have n1_:=Aside0.mk (blk_below (g:=gb334) (o := .cells #[.int .i64 0, .slice none 0 0, .int .i64 0] 38 (0,0)) (by exact BK334.out) hb);have n2_:=Aside0.mk (IsS58.below (by exact HI335.out) hb);have n3_:=Aside0.mk (below_step (by exact HB.out) hb);have n4_:=Aside0.mk (hbox);have n5_:=Aside0.mk ((by rw [hg];exact (below_size (by exact HB.out)) : w.heap.size ≤ gb343));have n6_:=Aside0.mk ((by rw [hg];exact (below_size (by exact HB.out)) : w.heap.size ≤ gb343));have n7_:=Aside0.mk ((by rw [hg];exact Nat.ne_of_lt (blk_lt (g:=gb334) (o := .cells #[.int .i64 0, .slice none 0 0, .int .i64 0] 38 (0,0)) (by exact BK334.out)) : gb334 ≠ gb343));have n8_:=Aside0.mk ((by rw [hg];exact Nat.ne_of_gt (blk_lt (g:=gb334) (o := .cells #[.int .i64 0, .slice none 0 0, .int .i64 0] 38 (0,0)) (by exact BK334.out)) : gb343 ≠ gb334));have n9_:=Aside0.mk ((by rw [hg];exact Nat.ne_of_lt (IsS58.lt (show IsS58 w _ gb335 l0 t341 t342 from by exact HI335.out)) : gb335 ≠ gb343));have n10_:=Aside0.mk ((by rw [hg];exact Nat.ne_of_gt (IsS58.lt (show IsS58 w _ gb335 l0 t341 t342 from by exact HI335.out)) : gb343 ≠ gb335));clear HO339;clear BK334;clear HI335;clear HB;have HO339:=n0_;have BK334:=n1_;have HI335:=n2_;have HB:=n3_;have BK343:=n4_;have GW343:=n5_;have GE343:=n6_;have NB334_343:=n7_;have NB343_334:=n8_;have NB335_343:=n9_;have NB343_335:=n10_;clear n0_ n1_ n2_ n3_ n4_ n5_ n6_ n7_ n8_ n9_ n10_;clear hb hbox hg;have hnb8:=NB343_334.out;have hnc8:=NB334_343.out;have hnb9:=NB343_335.out;have hnc9:=NB335_343.out;have hcz10_0 : w7.cell? ⟨gb343,0,none⟩ = some (.int .i64 0):=(blk_cell BK343.out 0).trans rfl;have hcz10_1 : w7.cell? ⟨gb343,1,none⟩ = some (.slice none 0 0):=(blk_cell BK343.out 1).trans rfl;have hcz10_2 : w7.cell? ⟨gb343,2,none⟩ = some (.int .i64 0):=(blk_cell BK343.out 2).trans rfl;have hfz10_0:=blk_frozen BK343.out 0;have hfz10_1:=blk_frozen BK343.out 1;have hfz10_2:=blk_frozen BK343.out 2;obtain ⟨Ao11,co11,eo11⟩ := Kd.R_slice HO339.out;subst eo11))
 have n0_ : Aside0 (Kd.R k51 51 (((w7.setCell ⟨gb343,0,none⟩ (.int .i64 t336)).setCell ⟨gb343,1,none⟩ (.slice Ao11 t337.length co11)).setCell ⟨gb343,2,none⟩ (.int .i64 t340)) w.heap.size (fun _ => True) (.slice Ao11 t337.length co11) t337):=⟨by exact Kd.R_mono (Kd.R_far (p:=⟨gb343,2,none⟩) (Kd.R_far (p:=⟨gb343,1,none⟩) (Kd.R_far (p:=⟨gb343,0,none⟩) (Kd.R_types HO339.out BK343.out (by decide)) (fun _ hk => hk.2) (.int .i64 t336)) (fun _ hk => hk.2) (.slice Ao11 t337.length co11)) (fun _ hk => hk.2) (.int .i64 t340)) (fun _ hk => trivial)⟩
 have n1_ : Aside0 ((((w7.setCell ⟨gb343,0,none⟩ (.int .i64 t336)).setCell ⟨gb343,1,none⟩ (.slice Ao11 t337.length co11)).setCell ⟨gb343,2,none⟩ (.int .i64 t340)).heap[gb334]? = some (.cells #[.int .i64 0, .slice none 0 0, .int .i64 0] 38 (0,0))):=⟨by refine blk_far ?_ NB334_343.out _;refine blk_far ?_ NB334_343.out _;refine blk_far ?_ NB334_343.out _;exact BK334.out⟩
 have n2_ : Aside0 ((((w7.setCell ⟨gb343,0,none⟩ (.int .i64 t336)).setCell ⟨gb343,1,none⟩ (.slice Ao11 t337.length co11)).setCell ⟨gb343,2,none⟩ (.int .i64 t340)).heap[gb343]? = some (.cells #[.int .i64 t336, .slice Ao11 t337.length co11, .int .i64 t340] 38 (0,0))):=⟨by refine blk_put (cs:=#[.int .i64 t336, .slice Ao11 t337.length co11, .int .i64 0]) ?_ 2 _ rfl;refine blk_put (cs:=#[.int .i64 t336, .slice none 0 0, .int .i64 0]) ?_ 1 _ rfl;refine blk_put (cs:=#[.int .i64 0, .slice none 0 0, .int .i64 0]) ?_ 0 _ rfl;exact BK343.out⟩
 have n3_ : Aside0 (IsS58 w (((w7.setCell ⟨gb343,0,none⟩ (.int .i64 t336)).setCell ⟨gb343,1,none⟩ (.slice Ao11 t337.length co11)).setCell ⟨gb343,2,none⟩ (.int .i64 t340)) gb335 l0 t341 t342):=⟨by repeat ((with_reducible first | exact HI335.out | refine IsS58.far ?_ NB335_343.out _))⟩
 have n4_ : Aside0 (Below w.heap.size w (((w7.setCell ⟨gb343,0,none⟩ (.int .i64 t336)).setCell ⟨gb343,1,none⟩ (.slice Ao11 t337.length co11)).setCell ⟨gb343,2,none⟩ (.int .i64 t340))):=⟨by repeat ((with_reducible first | exact HB.out | refine below_set ?_ GE343.out))⟩
 (try clear HO339)
 (try clear BK334)
 (try clear BK343)
 (try clear HI335)
 (try clear HB)
 generalize (((w7.setCell ⟨gb343,0,none⟩ (.int .i64 t336)).setCell ⟨gb343,1,none⟩ (.slice Ao11 t337.length co11)).setCell ⟨gb343,2,none⟩ (.int .i64 t340)) = w12 at n0_ n1_ n2_ n3_ n4_ ⊢
 have HO339:=n0_
 have BK334:=n1_
 have BK343:=n2_
 have HI335:=n3_
 have HB:=n4_
 clear n0_ n1_ n2_ n3_ n4_
 have n0_:=Aside0.mk (Kd.R_drew HO339.out)
 have n1_:=Aside0.mk (blk_drew BK334.out)
 have n2_:=Aside0.mk (blk_drew BK343.out)
 have n3_:=Aside0.mk (IsS58.drew HI335.out)
 have n4_:=Aside0.mk (below_drew1 HB.out)
 clear HO339
 clear BK334
 clear BK343
 clear HI335
 clear HB
 have HO339:=n0_
 have BK334:=n1_
 have BK343:=n2_
 have HI335:=n3_
 have HB:=n4_
 clear n0_ n1_ n2_ n3_ n4_
 refine start_ (n:=5) (S:=fun w' => w'.cell? ⟨gb343,0,none⟩ = some (.int .i64 t336) ∧ w'.cell? ⟨gb343,1,none⟩ = some (.slice Ao11 t337.length co11) ∧ w'.cell? ⟨gb343,2,none⟩ = some (.int .i64 t340)) (ds := []) #[false,false,false,false,false] (by kernel_rfl) rfl rfl ⟨(blk_cell BK343.out 0).trans rfl,(blk_cell BK343.out 1).trans rfl,(blk_cell BK343.out 2).trans rfl⟩ (fun hHeld => ?_)
 generalize w12.drew = w13 at HO339 BK334 BK343 HI335 HB hHeld ⊢
 refine pure_ (i:=1) (N:=some 12) (v:=?_) (a':=?_) #[false,true,false,false,false] rfl rfl (by kernel_rfl) (fun _ _ _ h => h) (Or.inl ⟨by rfl, ?_⟩) ?_ ?_
 rotate_left
 ·intro w'
  go_simp
  with_reducible rfl
 rotate_left
 ·simp only [Act.put,sA_,s0_,s1_,i64_w,i32_w]
  rfl
 refine take_ (i:=0) (N:=some 11) (v:=?_) (a':=?_) #[true,true,false,false,false] rfl rfl (by kernel_rfl) (fun _ _ _ h => h) (Or.inl ⟨by rfl, ?_⟩) hHeld ?_ ?_
 rotate_left
 ·rintro w' ⟨s0,s1,s2⟩
  go_simp
  with_reducible rfl
 rotate_left
 ·simp only [Act.put,sA_,s0_,s1_,i64_w,i32_w]
  rfl
 refine one_ (i:=2) (N:=some 13) #[true,true,true,false,false] rfl rfl (by kernel_rfl) (by decide) (fun K hK => ?_)
 refine goes_ Try.func45 (by kernel_rfl) rfl #[.pointer (some ⟨gb335,0,none⟩)] (by rfl) rfl rfl (by (try simp only [List.map_toArray,List.map_cons,List.map_nil]);rfl) ?_
 with_reducible refine (spec_l1Cur_stay.calls gb335 l0 t341 t342 t344 t345 t346 w _ ?side1 ?side2 A3.out).mono ?_
 (case side1 => exact HI335.out)
 (case side2 => exact HB.out)
 rintro e w14 ⟨rfl,hi,hb,hk⟩
 refine ⟨_,rfl, ?_⟩
 have n0_:=Aside0.mk (KeepBut.blk hk (g':=gb334) (o := .cells #[.int .i64 0, .slice none 0 0, .int .i64 0] 38 (0,0)) (by exact BK334.out) NB334_335.out (by simp))
 have n1_:=Aside0.mk (Kd.R_mono (Kd.R_keep (IsS58.apart (show IsS58 w _ gb335 l0 t341 t342 from by exact HI335.out) (by exact HO339.out) (by decide)) hk (fun _ h => h.2)) (fun _ h => h.1))
 have n2_:=Aside0.mk (KeepBut.blk hk (g':=gb343) (o := .cells #[.int .i64 t336, .slice Ao11 t337.length co11, .int .i64 t340] 38 (0,0)) (by exact BK343.out) NB343_335.out (by simp))
 have n3_:=Aside0.mk (hb)
 have n4_:=Aside0.mk (hi)
 clear BK334
 clear HO339
 clear BK343
 clear HB
 clear HI335
 have BK334:=n0_
 have HO339:=n1_
 have BK343:=n2_
 have HB:=n3_
 have HI335:=n4_
 clear n0_ n1_ n2_ n3_ n4_
 (try clear hb)
 (skip)
 (try clear hk)
 (try clear hi)
 refine hK.out _ _ ⟨(blk_cell BK343.out 0).trans rfl,(blk_cell BK343.out 1).trans rfl,(blk_cell BK343.out 2).trans rfl⟩ (fun hHeld => ?_)
 clear hK K
 refine norm_ (a':=?_) ?_ ?_
 rotate_left
 ·show Act.put _ (some 13) _ = _
  simp only [Act.put,sA_,s0_,s1_,i64_w,i32_w]
  rfl
 refine one_ (i:=3) (N:=none) #[true,true,true,true,false] rfl rfl (by kernel_rfl) (by decide) (fun K hK => ?_)
 have hs15 : w14.cell? ⟨gb334,0,none⟩ = some (.int .i64 0):=(blk_cell BK334.out 0).trans rfl
 have hfs15:=blk_frozen BK334.out 0
 have hns15_1:=NB343_334.out
 have hms15_1:=NB334_343.out
 have hs16 : w14.cell? ⟨gb334,1,none⟩ = some (.slice none 0 0):=(blk_cell BK334.out 1).trans rfl
 have hfs16:=blk_frozen BK334.out 1
 have hns16_1:=NB343_334.out
 have hms16_1:=NB334_343.out
 have hs17 : w14.cell? ⟨gb334,2,none⟩ = some (.int .i64 0):=(blk_cell BK334.out 2).trans rfl
 have hfs17:=blk_frozen BK334.out 2
 have hns17_1:=NB343_334.out
 have hms17_1:=NB334_343.out
 refine skip_ (w1:=?_) (by rfl) rfl ?_ ?_
 rotate_left
 ·go_simp
  rfl
 refine hK.out _ _ ⟨((cell_far (p:=⟨gb334,_,none⟩) NB343_334.out _).trans (((cell_far (p:=⟨gb334,_,none⟩) NB343_334.out _).trans (((cell_far (p:=⟨gb334,_,none⟩) NB343_334.out _).trans (hHeld.1)))))),((cell_far (p:=⟨gb334,_,none⟩) NB343_334.out _).trans (((cell_far (p:=⟨gb334,_,none⟩) NB343_334.out _).trans (((cell_far (p:=⟨gb334,_,none⟩) NB343_334.out _).trans (hHeld.2.1)))))),((cell_far (p:=⟨gb334,_,none⟩) NB343_334.out _).trans (((cell_far (p:=⟨gb334,_,none⟩) NB343_334.out _).trans (((cell_far (p:=⟨gb334,_,none⟩) NB343_334.out _).trans (hHeld.2.2))))))⟩ (fun hHeld => ?_)
 clear hK K
 refine pure_ (i:=4) (N:=some 3) (v:=?_) (a':=?_) #[true,true,true,true,true] rfl rfl (by kernel_rfl) (fun _ _ _ h => h) (Or.inl ⟨by rfl, ?_⟩) ?_ ?_
 rotate_left
 ·intro w'
  go_simp
  with_reducible rfl
 rotate_left
 ·simp only [Act.put,sA_,s0_,s1_,i64_w,i32_w]
  rfl
 refine done_ (by kernel_rfl) ?_
 try go_wp2
 refine bodyPost_ret (results_ct rfl _ _ gb334 38 #[.int .i64 t336, .slice Ao11 t337.length co11, .int .i64 t340] (0,0) _ rfl (by refine blk_put (cs:=#[.int .i64 t336, .slice Ao11 t337.length co11, .int .i64 0]) ?_ 2 _ rfl;refine blk_put (cs:=#[.int .i64 t336, .slice none 0 0, .int .i64 0]) ?_ 1 _ rfl;refine blk_put (cs:=#[.int .i64 0, .slice none 0 0, .int .i64 0]) ?_ 0 _ rfl;exact BK334.out) Try.underlying38 rfl (by kernel_rfl)) rfl ?_
 exact ⟨_,by rfl,by exact Kd.R_mono (Kd.R_far (p:=⟨gb334,2,none⟩) (Kd.R_far (p:=⟨gb334,1,none⟩) (Kd.R_far (p:=⟨gb334,0,none⟩) (Kd.R_types HO339.out BK334.out (by decide)) (fun _ hk => hk.2) (.int .i64 t336)) (fun _ hk => hk.2) (.slice Ao11 t337.length co11)) (fun _ hk => hk.2) (.int .i64 t340)) (fun _ hk => trivial),by repeat ((with_reducible first | exact HB.out | refine below_set ?_ GE334.out))⟩

/-! ### impl_stepOn: function 53 -/
def impl_stepOn.l0 : Nat → Int → List (S51) → Int → Int → Int → List (S51) → Int → Option (Int)
 | 0,_,_,_,_,_,_,_ => none
 | k + 1,x1,x14,x15,x16,x348000,x348001,x348002 => if x16 < x15 then (if 0 ≤ x16 then (if x16 < (x14.length : Int) then (if (wrap64 (x1 - ((rd_T51 x14 x16).f0))) ≤ 0 then (some x16) else (impl_stepOn.l0 k (wrap64 (x1 - ((rd_T51 x14 x16).f0))) x14 x15 (wrap64 (x16 + 1)) x348000 x348001 x348002)) else (none)) else (none)) else (some (wrap64 ((x348001.length : Int) - 1)))
def impl_stepOn.f (k : Nat) (a0_0 : Int) (l0_1 : List (S51)) (a0_2 : Int) (a1 : Int) : Option (Int):=if (wrap64 (a1 - a0_0)) ≤ 0 then (some (-1)) else (impl_stepOn.l0 k (wrap64 (a1 - a0_0)) l0_1 (l0_1.length : Int) 0 a0_0 l0_1 a0_2)
theorem impl_stepOn.mono_l : ∀ k,(∀ y0 y1 y2 y3 y4 y5 y6,LeO (impl_stepOn.l0 k y0 y1 y2 y3 y4 y5 y6) (impl_stepOn.l0 (k + 1) y0 y1 y2 y3 y4 y5 y6))
 | 0 => fun _ _ _ _ _ _ _ r h => by simp [impl_stepOn.l0] at h
 | k + 1 => by
  have ih0:=impl_stepOn.mono_l k
  ·intro y0 y1 y2 y3 y4 y5 y6
   unfold impl_stepOn.l0
   repeat' first
   | (with_reducible exact ih0 _ _ _ _ _ _ _)
   | (with_reducible exact LeO.refl _)
   | (with_reducible exact LeO.none _)
   | (with_reducible refine LeO.ite ?_ ?_)
   | (with_reducible refine LeO.bind ?_ (fun _ => ?_))
   | exact ih0 _ _ _ _ _ _ _
   | exact LeO.none _
   | refine LeO.ite ?_ ?_
   | refine LeO.bind ?_ (fun _ => ?_)
theorem impl_stepOn.mono : ∀ a0 a1 a2 a3 k,LeO (impl_stepOn.f k a0 a1 a2 a3) (impl_stepOn.f (k + 1) a0 a1 a2 a3):=by
 intro a0 a1 a2 a3 k
 have ih0:=impl_stepOn.mono_l k
 unfold impl_stepOn.f
 repeat' first
   | (with_reducible exact ih0 _ _ _ _ _ _ _)
   | (with_reducible exact LeO.refl _)
   | (with_reducible exact LeO.none _)
   | (with_reducible refine LeO.ite ?_ ?_)
   | (with_reducible refine LeO.bind ?_ (fun _ => ?_))
   | exact ih0 _ _ _ _ _ _ _
   | exact LeO.none _
   | refine LeO.ite ?_ ?_
   | refine LeO.bind ?_ (fun _ => ?_)
set_option maxHeartbeats 8000000 in
set_option maxRecDepth 100000 in
theorem impl_stepOn.calls (k : Nat) (a0_0 : Int) (A0_1 : Option Addr) (c0_1 : Nat) (l0_1 : List (S51)) (a0_2 : Int) (a1 : Int) (r : Int) (w : World) (hr0_1 : Kd.C k51 w A0_1 l0_1.length l0_1) (hc0_1 : l0_1.length ≤ c0_1) (h : impl_stepOn.f k a0_0 l0_1 a0_2 a1 = some r) :
  Calls Try.prog 53 #[.agg #[.int .i64 a0_0, .slice A0_1 l0_1.length c0_1, .int .i64 a0_2], .int .i64 a1] w fun e w' => e = .returned (.int .i64 r) ∧ Below w.heap.size w w':=by
 have hu38:=Try.underlying38
 have hu51:=Try.underlying51
 have HR0_1:=Aside0.mk hr0_1
 have HC0_1:=Aside0.mk hc0_1
 clear hr0_1 hc0_1
 have HB:=Aside0.mk (Below.refl w.heap.size w)
 have H : (if (wrap64 (a1 - a0_0)) ≤ 0 then (some (-1)) else (impl_stepOn.l0 k (wrap64 (a1 - a0_0)) l0_1 (l0_1.length : Int) 0 a0_0 l0_1 a0_2)) = some r:=h
 clear h
 by_cases c3 : (wrap64 (a1 - a0_0)) ≤ 0
 ·rw [if_pos c3] at H
  have c3b0 : decide ((wrap64 (a1 - a0_0)) ≤ 0) = true:=decide_eq_true c3
  clear c3
  obtain rfl:=Option.some.inj H
  go_enter Try.func53,Try.ntmps53
  go_wp2_with (((with_reducible refine gate_dst (N:=2) rfl ?_);refine box_event ?hg (N:=2) ?hd (cs:=#[.int .i64 a0_0, .slice A0_1 l0_1.length c0_1, .int .i64 a0_2]) (t:=38) ?hr ?_;(case hd => rfl);(case hg => rfl);(case hr => (go_simp;done));intro gb347 hg w4 hbox hb;have n0_:=Aside0.mk (below_step (by exact HB.out) hb);have n1_:=Aside0.mk (hbox);have n2_:=Aside0.mk ((by rw [hg];exact (below_size (by exact HB.out)) : w.heap.size ≤ gb347));have n3_:=Aside0.mk ((by rw [hg];exact (below_size (by exact HB.out)) : w.heap.size ≤ gb347));clear HB;have HB:=n0_;have BK347:=n1_;have GW347:=n2_;have GE347:=n3_;clear n0_ n1_ n2_ n3_;clear hb hbox hg;have hcz5_0 : w4.cell? ⟨gb347,0,none⟩ = some (.int .i64 a0_0):=(blk_cell BK347.out 0).trans rfl;have hcz5_1 : w4.cell? ⟨gb347,1,none⟩ = some (.slice A0_1 l0_1.length c0_1):=(blk_cell BK347.out 1).trans rfl;have hcz5_2 : w4.cell? ⟨gb347,2,none⟩ = some (.int .i64 a0_2):=(blk_cell BK347.out 2).trans rfl;have hfz5_0:=blk_frozen BK347.out 0;have hfz5_1:=blk_frozen BK347.out 1;have hfz5_2:=blk_frozen BK347.out 2))
  go_ret
  exact ⟨by rfl,by exact HB.out⟩
 ·rw [if_neg c3] at H
  have c3b0 : decide ((wrap64 (a1 - a0_0)) ≤ 0) = false:=decide_eq_false c3
  clear c3
  have H':=Aside0.mk H
  clear H
  go_enter Try.func53,Try.ntmps53
  go_wp2_with (((with_reducible refine gate_dst (N:=2) rfl ?_);refine box_event ?hg (N:=2) ?hd (cs:=#[.int .i64 a0_0, .slice A0_1 l0_1.length c0_1, .int .i64 a0_2]) (t:=38) ?hr ?_;(case hd => rfl);(case hg => rfl);(case hr => (go_simp;done));intro gb347 hg w6 hbox hb;have n0_:=Aside0.mk (below_step (by exact HB.out) hb);have n1_:=Aside0.mk (hbox);have n2_:=Aside0.mk ((by rw [hg];exact (below_size (by exact HB.out)) : w.heap.size ≤ gb347));have n3_:=Aside0.mk ((by rw [hg];exact (below_size (by exact HB.out)) : w.heap.size ≤ gb347));clear HB;have HB:=n0_;have BK347:=n1_;have GW347:=n2_;have GE347:=n3_;clear n0_ n1_ n2_ n3_;clear hb hbox hg;have hcz7_0 : w6.cell? ⟨gb347,0,none⟩ = some (.int .i64 a0_0):=(blk_cell BK347.out 0).trans rfl;have hcz7_1 : w6.cell? ⟨gb347,1,none⟩ = some (.slice A0_1 l0_1.length c0_1):=(blk_cell BK347.out 1).trans rfl;have hcz7_2 : w6.cell? ⟨gb347,2,none⟩ = some (.int .i64 a0_2):=(blk_cell BK347.out 2).trans rfl;have hfz7_0:=blk_frozen BK347.out 0;have hfz7_1:=blk_frozen BK347.out 1;have hfz7_2:=blk_frozen BK347.out 2))
  (skip)
  go_loopg [1,16] k (fun kq v1 v16 w' => ∃ (x1_1 : Int) (x16_1 : Int),v1 = .int .i64 x1_1 ∧ v16 = .int .i64 x16_1 ∧ Aside0 (impl_stepOn.l0 kq x1_1 l0_1 (l0_1.length : Int) x16_1 a0_0 l0_1 a0_2 = some r) ∧ Aside0 (kq ≤ k) ∧ Aside0 (w'.heap[gb347]? = some (.cells #[.int .i64 a0_0,(.slice A0_1 l0_1.length c0_1), .int .i64 a0_2] 38 (0,0))) ∧ Aside0 (Below w.heap.size w w'))
  case atStart => exact ⟨(wrap64 (a1 - a0_0)),(0),(by rfl),(by rfl),H',⟨Nat.le_refl _⟩,⟨by exact BK347.out⟩,⟨by exact HB.out⟩⟩
  case round =>
   clear H'
   try clear p2
   try clear c3
   try clear c3b0
   try clear c5
   try clear p6
   try clear hcz5_0
   try clear hcz5_1
   try clear hcz5_2
   try clear hcz7_0
   try clear hcz7_1
   try clear hcz7_2
   try clear hfz5_0
   try clear hfz5_1
   try clear hfz5_2
   try clear hfz7_0
   try clear hfz7_1
   try clear hfz7_2
   obtain ⟨x1_1,x16_1,rfl,rfl,HA,HK1,BK347,HB⟩ := hrel
   cases gk with
   | zero => exact absurd HA.out (by simp [impl_stepOn.l0])
   | succ k1 =>
    have H:=HA.out
    clear HA
    simp only [impl_stepOn.l0] at H
    by_cases c8 : x16_1 < (l0_1.length : Int)
    ·rw [if_pos c8] at H
     have c8b0 : decide (x16_1 < (l0_1.length : Int)) = true:=decide_eq_true c8
     clear c8
     by_cases c9 : 0 ≤ x16_1
     ·rw [if_pos c9] at H
      have c9b0 : decide (0 ≤ x16_1) = true:=decide_eq_true c9
      clear c9
      by_cases c10 : x16_1 < (l0_1.length : Int)
      ·rw [if_pos c10] at H
       have c10b0 : decide (x16_1 < (l0_1.length : Int)) = true:=decide_eq_true c10
       clear c10
       by_cases c11 : (wrap64 (x1_1 - ((rd_T51 l0_1 x16_1).f0))) ≤ 0
       ·rw [if_pos c11] at H
        have c11b0 : decide ((wrap64 (x1_1 - ((rd_T51 l0_1 x16_1).f0))) ≤ 0) = true:=decide_eq_true c11
        clear c11
        obtain rfl:=Option.some.inj H
        have p348 : 0 ≤ (x16_1 : Int):=of_decide_eq_true (by (with_reducible assumption))
        have q348 : x16_1 < (l0_1.length : Int):=of_decide_eq_true (by (with_reducible assumption))
        obtain ⟨ad348,e348,hx348_0,hx348_1⟩ := at_T51 HR0_1.out x16_1 p348 q348
        cases e348
        replace hx348_0:=(HB.out.cell (World.block_lt_of_cell? w _ hx348_0)).trans hx348_0
        replace hx348_1:=(HB.out.cell (World.block_lt_of_cell? w _ hx348_1)).trans hx348_1
        replace p348:=eq_true p348
        replace q348:=eq_true q348
        go_wp2_with (((with_reducible refine gate_dst (N:=6) rfl ?_);refine box_event ?hg (N:=6) ?hd (cs:=#[.int .i64 0, .int .i64 0]) (t:=51) ?hr ?_;(case hd => rfl);(case hg => rfl);(case hr => (go_simp;done));intro gb349 hg w12 hbox hb;have n0_:=Aside0.mk (blk_below (g:=gb347) (o := .cells #[.int .i64 a0_0, .slice (some ad348) l0_1.length c0_1, .int .i64 a0_2] 38 (0,0)) (by exact BK347.out) hb);have n1_:=Aside0.mk (below_step (by exact HB.out) hb);have n2_:=Aside0.mk (hbox);have n3_:=Aside0.mk ((by rw [hg];exact (below_size (by exact HB.out)) : w.heap.size ≤ gb349));have n4_:=Aside0.mk ((by rw [hg];exact (below_size (by exact HB.out)) : w.heap.size ≤ gb349));have n5_:=Aside0.mk ((by rw [hg];exact Nat.ne_of_lt (blk_lt (g:=gb347) (o := .cells #[.int .i64 a0_0, .slice (some ad348) l0_1.length c0_1, .int .i64 a0_2] 38 (0,0)) (by exact BK347.out)) : gb347 ≠ gb349));have n6_:=Aside0.mk ((by rw [hg];exact Nat.ne_of_gt (blk_lt (g:=gb347) (o := .cells #[.int .i64 a0_0, .slice (some ad348) l0_1.length c0_1, .int .i64 a0_2] 38 (0,0)) (by exact BK347.out)) : gb349 ≠ gb347));clear BK347;clear HB;have BK347:=n0_;have HB:=n1_;have BK349:=n2_;have GW349:=n3_;have GE349:=n4_;have NB347_349:=n5_;have NB349_347:=n6_;clear n0_ n1_ n2_ n3_ n4_ n5_ n6_;clear hb hbox hg;have hnb13:=NB349_347.out;have hnc13:=NB347_349.out;have hcz14_0 : w12.cell? ⟨gb349,0,none⟩ = some (.int .i64 0):=(blk_cell BK349.out 0).trans rfl;have hcz14_1 : w12.cell? ⟨gb349,1,none⟩ = some (.int .i64 0):=(blk_cell BK349.out 1).trans rfl;have hfz14_0:=blk_frozen BK349.out 0;have hfz14_1:=blk_frozen BK349.out 1))
        go_ret
        exact ⟨by rfl,by repeat ((with_reducible first | exact HB.out | refine below_set ?_ GE349.out))⟩
       ·rw [if_neg c11] at H
        have c11b0 : decide ((wrap64 (x1_1 - ((rd_T51 l0_1 x16_1).f0))) ≤ 0) = false:=decide_eq_false c11
        clear c11
        have H':=Aside0.mk H
        clear H
        have p348 : 0 ≤ (x16_1 : Int):=of_decide_eq_true (by (with_reducible assumption))
        have q348 : x16_1 < (l0_1.length : Int):=of_decide_eq_true (by (with_reducible assumption))
        obtain ⟨ad348,e348,hx348_0,hx348_1⟩ := at_T51 HR0_1.out x16_1 p348 q348
        cases e348
        replace hx348_0:=(HB.out.cell (World.block_lt_of_cell? w _ hx348_0)).trans hx348_0
        replace hx348_1:=(HB.out.cell (World.block_lt_of_cell? w _ hx348_1)).trans hx348_1
        replace p348:=eq_true p348
        replace q348:=eq_true q348
        go_wp2_with (((with_reducible refine gate_dst (N:=6) rfl ?_);refine box_event ?hg (N:=6) ?hd (cs:=#[.int .i64 0, .int .i64 0]) (t:=51) ?hr ?_;(case hd => rfl);(case hg => rfl);(case hr => (go_simp;done));intro gb349 hg w15 hbox hb;have n0_:=Aside0.mk (blk_below (g:=gb347) (o := .cells #[.int .i64 a0_0, .slice (some ad348) l0_1.length c0_1, .int .i64 a0_2] 38 (0,0)) (by exact BK347.out) hb);have n1_:=Aside0.mk (below_step (by exact HB.out) hb);have n2_:=Aside0.mk (hbox);have n3_:=Aside0.mk ((by rw [hg];exact (below_size (by exact HB.out)) : w.heap.size ≤ gb349));have n4_:=Aside0.mk ((by rw [hg];exact (below_size (by exact HB.out)) : w.heap.size ≤ gb349));have n5_:=Aside0.mk ((by rw [hg];exact Nat.ne_of_lt (blk_lt (g:=gb347) (o := .cells #[.int .i64 a0_0, .slice (some ad348) l0_1.length c0_1, .int .i64 a0_2] 38 (0,0)) (by exact BK347.out)) : gb347 ≠ gb349));have n6_:=Aside0.mk ((by rw [hg];exact Nat.ne_of_gt (blk_lt (g:=gb347) (o := .cells #[.int .i64 a0_0, .slice (some ad348) l0_1.length c0_1, .int .i64 a0_2] 38 (0,0)) (by exact BK347.out)) : gb349 ≠ gb347));clear BK347;clear HB;have BK347:=n0_;have HB:=n1_;have BK349:=n2_;have GW349:=n3_;have GE349:=n4_;have NB347_349:=n5_;have NB349_347:=n6_;clear n0_ n1_ n2_ n3_ n4_ n5_ n6_;clear hb hbox hg;have hnb16:=NB349_347.out;have hnc16:=NB347_349.out;have hcz17_0 : w15.cell? ⟨gb349,0,none⟩ = some (.int .i64 0):=(blk_cell BK349.out 0).trans rfl;have hcz17_1 : w15.cell? ⟨gb349,1,none⟩ = some (.int .i64 0):=(blk_cell BK349.out 1).trans rfl;have hfz17_0:=blk_frozen BK349.out 0;have hfz17_1:=blk_frozen BK349.out 1))
        go_roundg k1
        case measure => have:=HK1.out;omega
        case rel => exact ⟨(wrap64 (x1_1 - ((rd_T51 l0_1 x16_1).f0))),(wrap64 (x16_1 + 1)),(by rfl),(by rfl),H',⟨by have:=HK1.out;omega⟩,⟨by refine blk_far ?_ NB347_349.out _;refine blk_far ?_ NB347_349.out _;exact BK347.out⟩,⟨by repeat ((with_reducible first | exact HB.out | refine below_set ?_ GE349.out))⟩⟩
      ·rw [if_neg c10] at H
       exact absurd H (by simp)
     ·rw [if_neg c9] at H
      exact absurd H (by simp)
    ·rw [if_neg c8] at H
     have c8b0 : decide (x16_1 < (l0_1.length : Int)) = false:=decide_eq_false c8
     clear c8
     obtain rfl:=Option.some.inj H
     have hcz18_0 : wr.cell? ⟨gb347,0,none⟩ = some (.int .i64 a0_0):=(blk_cell BK347.out 0).trans rfl
     have hcz18_1 : wr.cell? ⟨gb347,1,none⟩ = some (.slice A0_1 l0_1.length c0_1):=(blk_cell BK347.out 1).trans rfl
     have hcz18_2 : wr.cell? ⟨gb347,2,none⟩ = some (.int .i64 a0_2):=(blk_cell BK347.out 2).trans rfl
     have hfz18_0:=blk_frozen BK347.out 0
     have hfz18_1:=blk_frozen BK347.out 1
     have hfz18_2:=blk_frozen BK347.out 2
     go_wp2
     go_ret
     exact ⟨by rfl,by exact HB.out⟩

/-! ### impl_StepOn: function 25 -/
def impl_StepOn.f (k : Nat) (a0_0 : Int) (l0_1 : List (S51)) (a0_2 : Int) (a1 : Int) : Option (Int × Bool):=(impl_IsValidCharge.f k a0_0 l0_1 a0_2).bind fun t351 => (if t351 = true then ((impl_within.f a1 1 400).bind fun t352 => (if t352 = true then ((impl_stepOn.f k a0_0 l0_1 a0_2 a1).bind fun t353 => (some (t353,true))) else (some (0,false)))) else (some (0,false)))
theorem impl_StepOn.mono : ∀ a0 a1 a2 a3 k,LeO (impl_StepOn.f k a0 a1 a2 a3) (impl_StepOn.f (k + 1) a0 a1 a2 a3):=by
 intro a0 a1 a2 a3 k
 unfold impl_StepOn.f
 repeat' first
   | (with_reducible exact impl_IsValidCharge.mono _ _ _ _)
   | (with_reducible exact impl_stepOn.mono _ _ _ _ _)
   | (with_reducible exact LeO.refl _)
   | (with_reducible exact LeO.none _)
   | (with_reducible refine LeO.ite ?_ ?_)
   | (with_reducible refine LeO.bind ?_ (fun _ => ?_))
   | exact impl_IsValidCharge.mono _ _ _ _
   | exact impl_stepOn.mono _ _ _ _ _
   | exact LeO.none _
   | refine LeO.ite ?_ ?_
   | refine LeO.bind ?_ (fun _ => ?_)
set_option maxHeartbeats 8000000 in
set_option maxRecDepth 100000 in
theorem impl_StepOn.calls (k : Nat) (a0_0 : Int) (A0_1 : Option Addr) (c0_1 : Nat) (l0_1 : List (S51)) (a0_2 : Int) (a1 : Int) (r1 : Int) (r2 : Bool) (w : World) (hr0_1 : Kd.C k51 w A0_1 l0_1.length l0_1) (hc0_1 : l0_1.length ≤ c0_1) (h : impl_StepOn.f k a0_0 l0_1 a0_2 a1 = some (r1,r2)) :
  Calls Try.prog 25 #[.agg #[.int .i64 a0_0, .slice A0_1 l0_1.length c0_1, .int .i64 a0_2], .int .i64 a1] w fun e w' => e = .returned (.tuple #[.int .i64 r1, .bool r2]) ∧ Below w.heap.size w w':=by
 have hu38:=Try.underlying38
 have HR0_1:=Aside0.mk hr0_1
 have HC0_1:=Aside0.mk hc0_1
 clear hr0_1 hc0_1
 have HB:=Aside0.mk (Below.refl w.heap.size w)
 have H : ((impl_IsValidCharge.f k a0_0 l0_1 a0_2).bind fun t351 => (if t351 = true then ((impl_within.f a1 1 400).bind fun t352 => (if t352 = true then ((impl_stepOn.f k a0_0 l0_1 a0_2 a1).bind fun t353 => (some (t353,true))) else (some (0,false)))) else (some (0,false)))) = some (r1,r2):=h
 clear h
 replace H:=Option.bind_eq_some_iff.mp H
 obtain ⟨t351,A30,H⟩ := H
 replace H : (if t351 = true then ((impl_within.f a1 1 400).bind fun t352 => (if t352 = true then ((impl_stepOn.f k a0_0 l0_1 a0_2 a1).bind fun t353 => (some (t353,true))) else (some (0,false)))) else (some (0,false))) = some (r1,r2):=H
 have A3:=Aside0.mk A30
 clear A30
 by_cases c4 : t351 = true
 ·subst c4
  have H1 : ((impl_within.f a1 1 400).bind fun t352 => (if t352 = true then ((impl_stepOn.f k a0_0 l0_1 a0_2 a1).bind fun t353 => (some (t353,true))) else (some (0,false)))) = some (r1,r2):=by rw [if_pos rfl] at H;exact H
  clear H
  have H:=H1
  clear H1
  replace H:=Option.bind_eq_some_iff.mp H
  obtain ⟨t352,A50,H⟩ := H
  replace H : (if t352 = true then ((impl_stepOn.f k a0_0 l0_1 a0_2 a1).bind fun t353 => (some (t353,true))) else (some (0,false))) = some (r1,r2):=H
  have A5:=Aside0.mk A50
  clear A50
  by_cases c6 : t352 = true
  ·subst c6
   have H1 : ((impl_stepOn.f k a0_0 l0_1 a0_2 a1).bind fun t353 => (some (t353,true))) = some (r1,r2):=by rw [if_pos rfl] at H;exact H
   clear H
   have H:=H1
   clear H1
   replace H:=Option.bind_eq_some_iff.mp H
   obtain ⟨t353,A70,H⟩ := H
   replace H : (some (t353,true)) = some (r1,r2):=H
   have A7:=Aside0.mk A70
   clear A70
   simp only [Option.some.injEq,Prod.mk.injEq] at H
   obtain ⟨rfl,rfl⟩ := H
   go_enter Try.func25,Try.ntmps25
   go_wp2_with (first | ((with_reducible refine gate_dst (N:=2) rfl ?_);refine box_event ?hg (N:=2) ?hd (cs:=#[.int .i64 a0_0, .slice A0_1 l0_1.length c0_1, .int .i64 a0_2]) (t:=38) ?hr ?_;(case hd => rfl);(case hg => rfl);(case hr => (go_simp;done));intro gb350 hg w8 hbox hb;have n0_:=Aside0.mk (below_step (by exact HB.out) hb);have n1_:=Aside0.mk (hbox);have n2_:=Aside0.mk ((by rw [hg];exact (below_size (by exact HB.out)) : w.heap.size ≤ gb350));have n3_:=Aside0.mk ((by rw [hg];exact (below_size (by exact HB.out)) : w.heap.size ≤ gb350));clear HB;have HB:=n0_;have BK350:=n1_;have GW350:=n2_;have GE350:=n3_;clear n0_ n1_ n2_ n3_;clear hb hbox hg;have hcz9_0 : w8.cell? ⟨gb350,0,none⟩ = some (.int .i64 a0_0):=(blk_cell BK350.out 0).trans rfl;have hcz9_1 : w8.cell? ⟨gb350,1,none⟩ = some (.slice A0_1 l0_1.length c0_1):=(blk_cell BK350.out 1).trans rfl;have hcz9_2 : w8.cell? ⟨gb350,2,none⟩ = some (.int .i64 a0_2):=(blk_cell BK350.out 2).trans rfl;have hfz9_0:=blk_frozen BK350.out 0;have hfz9_1:=blk_frozen BK350.out 1;have hfz9_2:=blk_frozen BK350.out 2) | ((with_reducible refine gate_callee (f:=17) rfl ?_);refine goesL_ (some 7) rfl rfl Try.func17 (by kernel_rfl) rfl #[.agg #[.int .i64 a0_0, .slice A0_1 l0_1.length c0_1, .int .i64 a0_2]] rfl (by (try simp only [List.map_toArray,List.map_cons,List.map_nil]);rfl) ?_;(with_reducible refine (impl_IsValidCharge.calls k a0_0 _ _ l0_1 a0_2 true _ ?side1 ?side2 A3.out).mono ?_);(case side1 => repeat (exact (Kd.C_below HR0_1.out HB.out)));(case side2 => exact HC0_1.out);rintro e w10 ⟨rfl,hb⟩;refine ⟨_,rfl, ?_⟩;have n0_:=Aside0.mk (blk_below (g:=gb350) (o := .cells #[.int .i64 a0_0, .slice A0_1 l0_1.length c0_1, .int .i64 a0_2] 38 (0,0)) (by exact BK350.out) hb);have n1_:=Aside0.mk (below_step (by exact HB.out) hb);clear BK350;clear HB;have BK350:=n0_;have HB:=n1_;clear n0_ n1_;(try clear hb)) | (go_at_call 37;(with_reducible refine (impl_within.calls a1 1 400 true _ A5.out).mono ?_);rintro e w' ⟨rfl,⟨nd,rfl⟩⟩;have hcz11_0 : w10.cell? ⟨gb350,0,none⟩ = some (.int .i64 a0_0):=(blk_cell BK350.out 0).trans rfl;have hcz11_1 : w10.cell? ⟨gb350,1,none⟩ = some (.slice A0_1 l0_1.length c0_1):=(blk_cell BK350.out 1).trans rfl;have hcz11_2 : w10.cell? ⟨gb350,2,none⟩ = some (.int .i64 a0_2):=(blk_cell BK350.out 2).trans rfl;have hfz11_0:=blk_frozen BK350.out 0;have hfz11_1:=blk_frozen BK350.out 1;have hfz11_2:=blk_frozen BK350.out 2) | ((with_reducible refine gate_callee (f:=53) rfl ?_);refine goesL_ (some 16) rfl rfl Try.func53 (by kernel_rfl) rfl #[.agg #[.int .i64 a0_0, .slice A0_1 l0_1.length c0_1, .int .i64 a0_2], .int .i64 a1] rfl (by (try simp only [List.map_toArray,List.map_cons,List.map_nil]);rfl) ?_;(with_reducible refine (impl_stepOn.calls k a0_0 _ _ l0_1 a0_2 a1 t353 _ ?side1 ?side2 A7.out).mono ?_);(case side1 => repeat (exact (Kd.C_below HR0_1.out (by repeat ((with_reducible first | exact HB.out | apply pw_below_drewN))))));(case side2 => exact HC0_1.out);rintro e w12 ⟨rfl,hb⟩;refine ⟨_,rfl, ?_⟩;have n0_:=Aside0.mk (blk_below (g:=gb350) (o := .cells #[.int .i64 a0_0, .slice A0_1 l0_1.length c0_1, .int .i64 a0_2] 38 (0,0)) (by (with_reducible repeat (refine blk_drewN ?_ _));exact BK350.out) hb);have n1_:=Aside0.mk (below_step (by repeat ((with_reducible first | exact HB.out | apply pw_below_drewN))) hb);clear BK350;clear HB;have BK350:=n0_;have HB:=n1_;clear n0_ n1_;(try clear hb)))
   go_ret2
   exact ⟨by rfl,by exact HB.out⟩
  ·replace c6:=Bool.eq_false_iff.mpr c6
   subst c6
   have H1 : (some (0,false)) = some (r1,r2):=by rw [if_neg (show ¬ (false = true) by decide)] at H;exact H
   clear H
   have H:=H1
   clear H1
   simp only [Option.some.injEq,Prod.mk.injEq] at H
   obtain ⟨rfl,rfl⟩ := H
   go_enter Try.func25,Try.ntmps25
   go_wp2_with (first | ((with_reducible refine gate_dst (N:=2) rfl ?_);refine box_event ?hg (N:=2) ?hd (cs:=#[.int .i64 a0_0, .slice A0_1 l0_1.length c0_1, .int .i64 a0_2]) (t:=38) ?hr ?_;(case hd => rfl);(case hg => rfl);(case hr => (go_simp;done));intro gb350 hg w13 hbox hb;have n0_:=Aside0.mk (below_step (by exact HB.out) hb);have n1_:=Aside0.mk (hbox);have n2_:=Aside0.mk ((by rw [hg];exact (below_size (by exact HB.out)) : w.heap.size ≤ gb350));have n3_:=Aside0.mk ((by rw [hg];exact (below_size (by exact HB.out)) : w.heap.size ≤ gb350));clear HB;have HB:=n0_;have BK350:=n1_;have GW350:=n2_;have GE350:=n3_;clear n0_ n1_ n2_ n3_;clear hb hbox hg;have hcz14_0 : w13.cell? ⟨gb350,0,none⟩ = some (.int .i64 a0_0):=(blk_cell BK350.out 0).trans rfl;have hcz14_1 : w13.cell? ⟨gb350,1,none⟩ = some (.slice A0_1 l0_1.length c0_1):=(blk_cell BK350.out 1).trans rfl;have hcz14_2 : w13.cell? ⟨gb350,2,none⟩ = some (.int .i64 a0_2):=(blk_cell BK350.out 2).trans rfl;have hfz14_0:=blk_frozen BK350.out 0;have hfz14_1:=blk_frozen BK350.out 1;have hfz14_2:=blk_frozen BK350.out 2) | ((with_reducible refine gate_callee (f:=17) rfl ?_);refine goesL_ (some 7) rfl rfl Try.func17 (by kernel_rfl) rfl #[.agg #[.int .i64 a0_0, .slice A0_1 l0_1.length c0_1, .int .i64 a0_2]] rfl (by (try simp only [List.map_toArray,List.map_cons,List.map_nil]);rfl) ?_;(with_reducible refine (impl_IsValidCharge.calls k a0_0 _ _ l0_1 a0_2 true _ ?side1 ?side2 A3.out).mono ?_);(case side1 => repeat (exact (Kd.C_below HR0_1.out HB.out)));(case side2 => exact HC0_1.out);rintro e w15 ⟨rfl,hb⟩;refine ⟨_,rfl, ?_⟩;have n0_:=Aside0.mk (blk_below (g:=gb350) (o := .cells #[.int .i64 a0_0, .slice A0_1 l0_1.length c0_1, .int .i64 a0_2] 38 (0,0)) (by exact BK350.out) hb);have n1_:=Aside0.mk (below_step (by exact HB.out) hb);clear BK350;clear HB;have BK350:=n0_;have HB:=n1_;clear n0_ n1_;(try clear hb)) | (go_at_call 37;(with_reducible refine (impl_within.calls a1 1 400 false _ A5.out).mono ?_);rintro e w' ⟨rfl,⟨nd,rfl⟩⟩))
   go_ret2
   exact ⟨by rfl,by repeat ((with_reducible first | exact HB.out | apply pw_below_drewN))⟩
 ·replace c4:=Bool.eq_false_iff.mpr c4
  subst c4
  have H1 : (some (0,false)) = some (r1,r2):=by rw [if_neg (show ¬ (false = true) by decide)] at H;exact H
  clear H
  have H:=H1
  clear H1
  simp only [Option.some.injEq,Prod.mk.injEq] at H
  obtain ⟨rfl,rfl⟩ := H
  go_enter Try.func25,Try.ntmps25
  go_wp2_with (first | ((with_reducible refine gate_dst (N:=2) rfl ?_);refine box_event ?hg (N:=2) ?hd (cs:=#[.int .i64 a0_0, .slice A0_1 l0_1.length c0_1, .int .i64 a0_2]) (t:=38) ?hr ?_;(case hd => rfl);(case hg => rfl);(case hr => (go_simp;done));intro gb350 hg w16 hbox hb;have n0_:=Aside0.mk (below_step (by exact HB.out) hb);have n1_:=Aside0.mk (hbox);have n2_:=Aside0.mk ((by rw [hg];exact (below_size (by exact HB.out)) : w.heap.size ≤ gb350));have n3_:=Aside0.mk ((by rw [hg];exact (below_size (by exact HB.out)) : w.heap.size ≤ gb350));clear HB;have HB:=n0_;have BK350:=n1_;have GW350:=n2_;have GE350:=n3_;clear n0_ n1_ n2_ n3_;clear hb hbox hg;have hcz17_0 : w16.cell? ⟨gb350,0,none⟩ = some (.int .i64 a0_0):=(blk_cell BK350.out 0).trans rfl;have hcz17_1 : w16.cell? ⟨gb350,1,none⟩ = some (.slice A0_1 l0_1.length c0_1):=(blk_cell BK350.out 1).trans rfl;have hcz17_2 : w16.cell? ⟨gb350,2,none⟩ = some (.int .i64 a0_2):=(blk_cell BK350.out 2).trans rfl;have hfz17_0:=blk_frozen BK350.out 0;have hfz17_1:=blk_frozen BK350.out 1;have hfz17_2:=blk_frozen BK350.out 2) | ((with_reducible refine gate_callee (f:=17) rfl ?_);refine goesL_ (some 7) rfl rfl Try.func17 (by kernel_rfl) rfl #[.agg #[.int .i64 a0_0, .slice A0_1 l0_1.length c0_1, .int .i64 a0_2]] rfl (by (try simp only [List.map_toArray,List.map_cons,List.map_nil]);rfl) ?_;(with_reducible refine (impl_IsValidCharge.calls k a0_0 _ _ l0_1 a0_2 false _ ?side1 ?side2 A3.out).mono ?_);(case side1 => repeat (exact (Kd.C_below HR0_1.out HB.out)));(case side2 => exact HC0_1.out);rintro e w18 ⟨rfl,hb⟩;refine ⟨_,rfl, ?_⟩;have n0_:=Aside0.mk (blk_below (g:=gb350) (o := .cells #[.int .i64 a0_0, .slice A0_1 l0_1.length c0_1, .int .i64 a0_2] 38 (0,0)) (by exact BK350.out) hb);have n1_:=Aside0.mk (below_step (by exact HB.out) hb);clear BK350;clear HB;have BK350:=n0_;have HB:=n1_;clear n0_ n1_;(try clear hb)))
  go_ret2
  exact ⟨by rfl,by exact HB.out⟩

/-! ### impl_RateOn: function 24 -/
def impl_RateOn.f (k : Nat) (a0_0 : Int) (l0_1 : List (S51)) (a0_2 : Int) (a1 : Int) : Option (Int × Bool):=(impl_StepOn.f k a0_0 l0_1 a0_2 a1).bind fun bt355 => (if bt355.2 = true then (if bt355.1 < 0 then (some (0,bt355.2)) else (if 0 ≤ bt355.1 then (if bt355.1 < (l0_1.length : Int) then (some ((rd_T51 l0_1 bt355.1).f1,true)) else (none)) else (none))) else (some (0,bt355.2)))
theorem impl_RateOn.mono : ∀ a0 a1 a2 a3 k,LeO (impl_RateOn.f k a0 a1 a2 a3) (impl_RateOn.f (k + 1) a0 a1 a2 a3):=by
 intro a0 a1 a2 a3 k
 unfold impl_RateOn.f
 repeat' first
   | (with_reducible exact impl_StepOn.mono _ _ _ _ _)
   | (with_reducible exact LeO.refl _)
   | (with_reducible exact LeO.none _)
   | (with_reducible refine LeO.ite ?_ ?_)
   | (with_reducible refine LeO.bind ?_ (fun _ => ?_))
   | exact impl_StepOn.mono _ _ _ _ _
   | exact LeO.none _
   | refine LeO.ite ?_ ?_
   | refine LeO.bind ?_ (fun _ => ?_)
set_option maxHeartbeats 8000000 in
set_option maxRecDepth 100000 in
theorem impl_RateOn.calls (k : Nat) (a0_0 : Int) (A0_1 : Option Addr) (c0_1 : Nat) (l0_1 : List (S51)) (a0_2 : Int) (a1 : Int) (r1 : Int) (r2 : Bool) (w : World) (hr0_1 : Kd.C k51 w A0_1 l0_1.length l0_1) (hc0_1 : l0_1.length ≤ c0_1) (h : impl_RateOn.f k a0_0 l0_1 a0_2 a1 = some (r1,r2)) :
  Calls Try.prog 24 #[.agg #[.int .i64 a0_0, .slice A0_1 l0_1.length c0_1, .int .i64 a0_2], .int .i64 a1] w fun e w' => e = .returned (.tuple #[.int .i64 r1, .bool r2]) ∧ Below w.heap.size w w':=by
 have hu38:=Try.underlying38
 have HR0_1:=Aside0.mk hr0_1
 have HC0_1:=Aside0.mk hc0_1
 clear hr0_1 hc0_1
 have HB:=Aside0.mk (Below.refl w.heap.size w)
 have H : ((impl_StepOn.f k a0_0 l0_1 a0_2 a1).bind fun bt355 => (if bt355.2 = true then (if bt355.1 < 0 then (some (0,bt355.2)) else (if 0 ≤ bt355.1 then (if bt355.1 < (l0_1.length : Int) then (some ((rd_T51 l0_1 bt355.1).f1,true)) else (none)) else (none))) else (some (0,bt355.2)))) = some (r1,r2):=h
 clear h
 replace H:=Option.bind_eq_some_iff.mp H
 obtain ⟨⟨t355,t356⟩,A30,H⟩ := H
 replace H : (if t356 = true then (if t355 < 0 then (some (0,t356)) else (if 0 ≤ t355 then (if t355 < (l0_1.length : Int) then (some ((rd_T51 l0_1 t355).f1,true)) else (none)) else (none))) else (some (0,t356))) = some (r1,r2):=H
 have A3:=Aside0.mk A30
 clear A30
 by_cases c4 : t356 = true
 ·subst c4
  have H1 : (if t355 < 0 then (some (0,true)) else (if 0 ≤ t355 then (if t355 < (l0_1.length : Int) then (some ((rd_T51 l0_1 t355).f1,true)) else (none)) else (none))) = some (r1,r2):=by rw [if_pos rfl] at H;exact H
  clear H
  have H:=H1
  clear H1
  by_cases c5 : t355 < 0
  ·rw [if_pos c5] at H
   have c5b0 : decide (t355 < 0) = true:=decide_eq_true c5
   clear c5
   simp only [Option.some.injEq,Prod.mk.injEq] at H
   obtain ⟨rfl,rfl⟩ := H
   go_enter Try.func24,Try.ntmps24
   go_wp2_with (first | ((with_reducible refine gate_dst (N:=2) rfl ?_);refine box_event ?hg (N:=2) ?hd (cs:=#[.int .i64 a0_0, .slice A0_1 l0_1.length c0_1, .int .i64 a0_2]) (t:=38) ?hr ?_;(case hd => rfl);(case hg => rfl);(case hr => (go_simp;done));intro gb354 hg w6 hbox hb;have n0_:=Aside0.mk (below_step (by exact HB.out) hb);have n1_:=Aside0.mk (hbox);have n2_:=Aside0.mk ((by rw [hg];exact (below_size (by exact HB.out)) : w.heap.size ≤ gb354));have n3_:=Aside0.mk ((by rw [hg];exact (below_size (by exact HB.out)) : w.heap.size ≤ gb354));clear HB;have HB:=n0_;have BK354:=n1_;have GW354:=n2_;have GE354:=n3_;clear n0_ n1_ n2_ n3_;clear hb hbox hg;have hcz7_0 : w6.cell? ⟨gb354,0,none⟩ = some (.int .i64 a0_0):=(blk_cell BK354.out 0).trans rfl;have hcz7_1 : w6.cell? ⟨gb354,1,none⟩ = some (.slice A0_1 l0_1.length c0_1):=(blk_cell BK354.out 1).trans rfl;have hcz7_2 : w6.cell? ⟨gb354,2,none⟩ = some (.int .i64 a0_2):=(blk_cell BK354.out 2).trans rfl;have hfz7_0:=blk_frozen BK354.out 0;have hfz7_1:=blk_frozen BK354.out 1;have hfz7_2:=blk_frozen BK354.out 2) | ((with_reducible refine gate_callee (f:=25) rfl ?_);refine goesL_ (some 11) rfl rfl Try.func25 (by kernel_rfl) rfl #[.agg #[.int .i64 a0_0, .slice A0_1 l0_1.length c0_1, .int .i64 a0_2], .int .i64 a1] rfl (by (try simp only [List.map_toArray,List.map_cons,List.map_nil]);rfl) ?_;(with_reducible refine (impl_StepOn.calls k a0_0 _ _ l0_1 a0_2 a1 t355 true _ ?side1 ?side2 A3.out).mono ?_);(case side1 => repeat (exact (Kd.C_below HR0_1.out HB.out)));(case side2 => exact HC0_1.out);rintro e w8 ⟨rfl,hb⟩;refine ⟨_,rfl, ?_⟩;have n0_:=Aside0.mk (blk_below (g:=gb354) (o := .cells #[.int .i64 a0_0, .slice A0_1 l0_1.length c0_1, .int .i64 a0_2] 38 (0,0)) (by exact BK354.out) hb);have n1_:=Aside0.mk (below_step (by exact HB.out) hb);clear BK354;clear HB;have BK354:=n0_;have HB:=n1_;clear n0_ n1_;(try clear hb)))
   go_ret2
   exact ⟨by rfl,by exact HB.out⟩
  ·rw [if_neg c5] at H
   have c5b0 : decide (t355 < 0) = false:=decide_eq_false c5
   clear c5
   by_cases c9 : 0 ≤ t355
   ·rw [if_pos c9] at H
    have c9b0 : decide (0 ≤ t355) = true:=decide_eq_true c9
    clear c9
    by_cases c10 : t355 < (l0_1.length : Int)
    ·rw [if_pos c10] at H
     have c10b0 : decide (t355 < (l0_1.length : Int)) = true:=decide_eq_true c10
     clear c10
     simp only [Option.some.injEq,Prod.mk.injEq] at H
     obtain ⟨rfl,rfl⟩ := H
     go_enter Try.func24,Try.ntmps24
     go_wp2_with (first | ((with_reducible refine gate_dst (N:=2) rfl ?_);refine box_event ?hg (N:=2) ?hd (cs:=#[.int .i64 a0_0, .slice A0_1 l0_1.length c0_1, .int .i64 a0_2]) (t:=38) ?hr ?_;(case hd => rfl);(case hg => rfl);(case hr => (go_simp;done));intro gb354 hg w11 hbox hb;have n0_:=Aside0.mk (below_step (by exact HB.out) hb);have n1_:=Aside0.mk (hbox);have n2_:=Aside0.mk ((by rw [hg];exact (below_size (by exact HB.out)) : w.heap.size ≤ gb354));have n3_:=Aside0.mk ((by rw [hg];exact (below_size (by exact HB.out)) : w.heap.size ≤ gb354));clear HB;have HB:=n0_;have BK354:=n1_;have GW354:=n2_;have GE354:=n3_;clear n0_ n1_ n2_ n3_;clear hb hbox hg;have hcz12_0 : w11.cell? ⟨gb354,0,none⟩ = some (.int .i64 a0_0):=(blk_cell BK354.out 0).trans rfl;have hcz12_1 : w11.cell? ⟨gb354,1,none⟩ = some (.slice A0_1 l0_1.length c0_1):=(blk_cell BK354.out 1).trans rfl;have hcz12_2 : w11.cell? ⟨gb354,2,none⟩ = some (.int .i64 a0_2):=(blk_cell BK354.out 2).trans rfl;have hfz12_0:=blk_frozen BK354.out 0;have hfz12_1:=blk_frozen BK354.out 1;have hfz12_2:=blk_frozen BK354.out 2) | ((with_reducible refine gate_callee (f:=25) rfl ?_);refine goesL_ (some 11) rfl rfl Try.func25 (by kernel_rfl) rfl #[.agg #[.int .i64 a0_0, .slice A0_1 l0_1.length c0_1, .int .i64 a0_2], .int .i64 a1] rfl (by (try simp only [List.map_toArray,List.map_cons,List.map_nil]);rfl) ?_;(with_reducible refine (impl_StepOn.calls k a0_0 _ _ l0_1 a0_2 a1 t355 true _ ?side1 ?side2 A3.out).mono ?_);(case side1 => repeat (exact (Kd.C_below HR0_1.out HB.out)));(case side2 => exact HC0_1.out);rintro e w13 ⟨rfl,hb⟩;refine ⟨_,rfl, ?_⟩;have n0_:=Aside0.mk (blk_below (g:=gb354) (o := .cells #[.int .i64 a0_0, .slice A0_1 l0_1.length c0_1, .int .i64 a0_2] 38 (0,0)) (by exact BK354.out) hb);have n1_:=Aside0.mk (below_step (by exact HB.out) hb);clear BK354;clear HB;have BK354:=n0_;have HB:=n1_;clear n0_ n1_;(try clear hb);have hcz14_0 : w13.cell? ⟨gb354,0,none⟩ = some (.int .i64 a0_0):=(blk_cell BK354.out 0).trans rfl;have hcz14_1 : w13.cell? ⟨gb354,1,none⟩ = some (.slice A0_1 l0_1.length c0_1):=(blk_cell BK354.out 1).trans rfl;have hcz14_2 : w13.cell? ⟨gb354,2,none⟩ = some (.int .i64 a0_2):=(blk_cell BK354.out 2).trans rfl;have hfz14_0:=blk_frozen BK354.out 0;have hfz14_1:=blk_frozen BK354.out 1;have hfz14_2:=blk_frozen BK354.out 2;have p357 : 0 ≤ (t355 : Int):=of_decide_eq_true (by (with_reducible assumption));have q357 : t355 < (l0_1.length : Int):=of_decide_eq_true (by (with_reducible assumption));obtain ⟨ad357,e357,hx357_0,hx357_1⟩ := at_T51 HR0_1.out t355 p357 q357;cases e357;replace hx357_0:=(HB.out.cell (World.block_lt_of_cell? w _ hx357_0)).trans hx357_0;replace hx357_1:=(HB.out.cell (World.block_lt_of_cell? w _ hx357_1)).trans hx357_1;replace p357:=eq_true p357;replace q357:=eq_true q357))
     go_ret2
     exact ⟨by rfl,by exact HB.out⟩
    ·rw [if_neg c10] at H
     exact absurd H (by simp)
   ·rw [if_neg c9] at H
    exact absurd H (by simp)
 ·replace c4:=Bool.eq_false_iff.mpr c4
  subst c4
  have H1 : (some (0,false)) = some (r1,r2):=by rw [if_neg (show ¬ (false = true) by decide)] at H;exact H
  clear H
  have H:=H1
  clear H1
  simp only [Option.some.injEq,Prod.mk.injEq] at H
  obtain ⟨rfl,rfl⟩ := H
  go_enter Try.func24,Try.ntmps24
  go_wp2_with (first | ((with_reducible refine gate_dst (N:=2) rfl ?_);refine box_event ?hg (N:=2) ?hd (cs:=#[.int .i64 a0_0, .slice A0_1 l0_1.length c0_1, .int .i64 a0_2]) (t:=38) ?hr ?_;(case hd => rfl);(case hg => rfl);(case hr => (go_simp;done));intro gb354 hg w15 hbox hb;have n0_:=Aside0.mk (below_step (by exact HB.out) hb);have n1_:=Aside0.mk (hbox);have n2_:=Aside0.mk ((by rw [hg];exact (below_size (by exact HB.out)) : w.heap.size ≤ gb354));have n3_:=Aside0.mk ((by rw [hg];exact (below_size (by exact HB.out)) : w.heap.size ≤ gb354));clear HB;have HB:=n0_;have BK354:=n1_;have GW354:=n2_;have GE354:=n3_;clear n0_ n1_ n2_ n3_;clear hb hbox hg;have hcz16_0 : w15.cell? ⟨gb354,0,none⟩ = some (.int .i64 a0_0):=(blk_cell BK354.out 0).trans rfl;have hcz16_1 : w15.cell? ⟨gb354,1,none⟩ = some (.slice A0_1 l0_1.length c0_1):=(blk_cell BK354.out 1).trans rfl;have hcz16_2 : w15.cell? ⟨gb354,2,none⟩ = some (.int .i64 a0_2):=(blk_cell BK354.out 2).trans rfl;have hfz16_0:=blk_frozen BK354.out 0;have hfz16_1:=blk_frozen BK354.out 1;have hfz16_2:=blk_frozen BK354.out 2) | ((with_reducible refine gate_callee (f:=25) rfl ?_);refine goesL_ (some 11) rfl rfl Try.func25 (by kernel_rfl) rfl #[.agg #[.int .i64 a0_0, .slice A0_1 l0_1.length c0_1, .int .i64 a0_2], .int .i64 a1] rfl (by (try simp only [List.map_toArray,List.map_cons,List.map_nil]);rfl) ?_;(with_reducible refine (impl_StepOn.calls k a0_0 _ _ l0_1 a0_2 a1 t355 false _ ?side1 ?side2 A3.out).mono ?_);(case side1 => repeat (exact (Kd.C_below HR0_1.out HB.out)));(case side2 => exact HC0_1.out);rintro e w17 ⟨rfl,hb⟩;refine ⟨_,rfl, ?_⟩;have n0_:=Aside0.mk (blk_below (g:=gb354) (o := .cells #[.int .i64 a0_0, .slice A0_1 l0_1.length c0_1, .int .i64 a0_2] 38 (0,0)) (by exact BK354.out) hb);have n1_:=Aside0.mk (below_step (by exact HB.out) hb);clear BK354;clear HB;have BK354:=n0_;have HB:=n1_;clear n0_ n1_;(try clear hb)))
  go_ret2
  exact ⟨by rfl,by exact HB.out⟩

/-! ### spec_RateOn: function 26 -/
def spec_RateOn.f (k : Nat) (a0_0 : Int) (l0_1 : List (S51)) (a0_2 : Int) (a1 : Int) : Option (Int × Bool):=(spec_l22Good.f k a0_0 l0_1 a0_2).bind fun t359 => (if t359 = true then ((spec_l1In.f a1 1 400).bind fun t360 => (if t360 = true then ((spec_l22Rate.f k a0_0 l0_1 a0_2 a1).bind fun t361 => (some (t361,true))) else (some (0,false)))) else (some (0,false)))
theorem spec_RateOn.mono : ∀ a0 a1 a2 a3 k,LeO (spec_RateOn.f k a0 a1 a2 a3) (spec_RateOn.f (k + 1) a0 a1 a2 a3):=by
 intro a0 a1 a2 a3 k
 unfold spec_RateOn.f
 repeat' first
   | (with_reducible exact spec_l22Good.mono _ _ _ _)
   | (with_reducible exact spec_l22Rate.mono _ _ _ _ _)
   | (with_reducible exact LeO.refl _)
   | (with_reducible exact LeO.none _)
   | (with_reducible refine LeO.ite ?_ ?_)
   | (with_reducible refine LeO.bind ?_ (fun _ => ?_))
   | exact spec_l22Good.mono _ _ _ _
   | exact spec_l22Rate.mono _ _ _ _ _
   | exact LeO.none _
   | refine LeO.ite ?_ ?_
   | refine LeO.bind ?_ (fun _ => ?_)
set_option maxHeartbeats 8000000 in
set_option maxRecDepth 100000 in
theorem spec_RateOn.calls (k : Nat) (a0_0 : Int) (A0_1 : Option Addr) (c0_1 : Nat) (l0_1 : List (S51)) (a0_2 : Int) (a1 : Int) (r1 : Int) (r2 : Bool) (w : World) (hr0_1 : Kd.C k51 w A0_1 l0_1.length l0_1) (hc0_1 : l0_1.length ≤ c0_1) (h : spec_RateOn.f k a0_0 l0_1 a0_2 a1 = some (r1,r2)) :
  Calls Try.prog 26 #[.agg #[.int .i64 a0_0, .slice A0_1 l0_1.length c0_1, .int .i64 a0_2], .int .i64 a1] w fun e w' => e = .returned (.tuple #[.int .i64 r1, .bool r2]) ∧ Below w.heap.size w w':=by
 have hu38:=Try.underlying38
 have HR0_1:=Aside0.mk hr0_1
 have HC0_1:=Aside0.mk hc0_1
 clear hr0_1 hc0_1
 have HB:=Aside0.mk (Below.refl w.heap.size w)
 have H : ((spec_l22Good.f k a0_0 l0_1 a0_2).bind fun t359 => (if t359 = true then ((spec_l1In.f a1 1 400).bind fun t360 => (if t360 = true then ((spec_l22Rate.f k a0_0 l0_1 a0_2 a1).bind fun t361 => (some (t361,true))) else (some (0,false)))) else (some (0,false)))) = some (r1,r2):=h
 clear h
 replace H:=Option.bind_eq_some_iff.mp H
 obtain ⟨t359,A30,H⟩ := H
 replace H : (if t359 = true then ((spec_l1In.f a1 1 400).bind fun t360 => (if t360 = true then ((spec_l22Rate.f k a0_0 l0_1 a0_2 a1).bind fun t361 => (some (t361,true))) else (some (0,false)))) else (some (0,false))) = some (r1,r2):=H
 have A3:=Aside0.mk A30
 clear A30
 by_cases c4 : t359 = true
 ·subst c4
  have H1 : ((spec_l1In.f a1 1 400).bind fun t360 => (if t360 = true then ((spec_l22Rate.f k a0_0 l0_1 a0_2 a1).bind fun t361 => (some (t361,true))) else (some (0,false)))) = some (r1,r2):=by rw [if_pos rfl] at H;exact H
  clear H
  have H:=H1
  clear H1
  replace H:=Option.bind_eq_some_iff.mp H
  obtain ⟨t360,A50,H⟩ := H
  replace H : (if t360 = true then ((spec_l22Rate.f k a0_0 l0_1 a0_2 a1).bind fun t361 => (some (t361,true))) else (some (0,false))) = some (r1,r2):=H
  have A5:=Aside0.mk A50
  clear A50
  by_cases c6 : t360 = true
  ·subst c6
   have H1 : ((spec_l22Rate.f k a0_0 l0_1 a0_2 a1).bind fun t361 => (some (t361,true))) = some (r1,r2):=by rw [if_pos rfl] at H;exact H
   clear H
   have H:=H1
   clear H1
   replace H:=Option.bind_eq_some_iff.mp H
   obtain ⟨t361,A70,H⟩ := H
   replace H : (some (t361,true)) = some (r1,r2):=H
   have A7:=Aside0.mk A70
   clear A70
   simp only [Option.some.injEq,Prod.mk.injEq] at H
   obtain ⟨rfl,rfl⟩ := H
   go_enter Try.func26,Try.ntmps26
   go_wp2_with (first | ((with_reducible refine gate_dst (N:=2) rfl ?_);refine box_event ?hg (N:=2) ?hd (cs:=#[.int .i64 a0_0, .slice A0_1 l0_1.length c0_1, .int .i64 a0_2]) (t:=38) ?hr ?_;(case hd => rfl);(case hg => rfl);(case hr => (go_simp;done));intro gb358 hg w8 hbox hb;have n0_:=Aside0.mk (below_step (by exact HB.out) hb);have n1_:=Aside0.mk (hbox);have n2_:=Aside0.mk ((by rw [hg];exact (below_size (by exact HB.out)) : w.heap.size ≤ gb358));have n3_:=Aside0.mk ((by rw [hg];exact (below_size (by exact HB.out)) : w.heap.size ≤ gb358));clear HB;have HB:=n0_;have BK358:=n1_;have GW358:=n2_;have GE358:=n3_;clear n0_ n1_ n2_ n3_;clear hb hbox hg;have hcz9_0 : w8.cell? ⟨gb358,0,none⟩ = some (.int .i64 a0_0):=(blk_cell BK358.out 0).trans rfl;have hcz9_1 : w8.cell? ⟨gb358,1,none⟩ = some (.slice A0_1 l0_1.length c0_1):=(blk_cell BK358.out 1).trans rfl;have hcz9_2 : w8.cell? ⟨gb358,2,none⟩ = some (.int .i64 a0_2):=(blk_cell BK358.out 2).trans rfl;have hfz9_0:=blk_frozen BK358.out 0;have hfz9_1:=blk_frozen BK358.out 1;have hfz9_2:=blk_frozen BK358.out 2) | ((with_reducible refine gate_callee (f:=54) rfl ?_);refine goesL_ (some 7) rfl rfl Try.func54 (by kernel_rfl) rfl #[.agg #[.int .i64 a0_0, .slice A0_1 l0_1.length c0_1, .int .i64 a0_2]] rfl (by (try simp only [List.map_toArray,List.map_cons,List.map_nil]);rfl) ?_;(with_reducible refine (spec_l22Good.calls k a0_0 _ _ l0_1 a0_2 true _ ?side1 ?side2 A3.out).mono ?_);(case side1 => repeat (exact (Kd.C_below HR0_1.out HB.out)));(case side2 => exact HC0_1.out);rintro e w10 ⟨rfl,hb⟩;refine ⟨_,rfl, ?_⟩;have n0_:=Aside0.mk (blk_below (g:=gb358) (o := .cells #[.int .i64 a0_0, .slice A0_1 l0_1.length c0_1, .int .i64 a0_2] 38 (0,0)) (by exact BK358.out) hb);have n1_:=Aside0.mk (below_step (by exact HB.out) hb);clear BK358;clear HB;have BK358:=n0_;have HB:=n1_;clear n0_ n1_;(try clear hb)) | (go_at_call 41;(with_reducible refine (spec_l1In.calls a1 1 400 true _ A5.out).mono ?_);rintro e w' ⟨rfl,⟨nd,rfl⟩⟩;have hcz11_0 : w10.cell? ⟨gb358,0,none⟩ = some (.int .i64 a0_0):=(blk_cell BK358.out 0).trans rfl;have hcz11_1 : w10.cell? ⟨gb358,1,none⟩ = some (.slice A0_1 l0_1.length c0_1):=(blk_cell BK358.out 1).trans rfl;have hcz11_2 : w10.cell? ⟨gb358,2,none⟩ = some (.int .i64 a0_2):=(blk_cell BK358.out 2).trans rfl;have hfz11_0:=blk_frozen BK358.out 0;have hfz11_1:=blk_frozen BK358.out 1;have hfz11_2:=blk_frozen BK358.out 2) | ((with_reducible refine gate_callee (f:=55) rfl ?_);refine goesL_ (some 16) rfl rfl Try.func55 (by kernel_rfl) rfl #[.agg #[.int .i64 a0_0, .slice A0_1 l0_1.length c0_1, .int .i64 a0_2], .int .i64 a1] rfl (by (try simp only [List.map_toArray,List.map_cons,List.map_nil]);rfl) ?_;(with_reducible refine (spec_l22Rate.calls k a0_0 _ _ l0_1 a0_2 a1 t361 _ ?side1 ?side2 A7.out).mono ?_);(case side1 => repeat (exact (Kd.C_below HR0_1.out (by repeat ((with_reducible first | exact HB.out | apply pw_below_drewN))))));(case side2 => exact HC0_1.out);rintro e w12 ⟨rfl,hb⟩;refine ⟨_,rfl, ?_⟩;have n0_:=Aside0.mk (blk_below (g:=gb358) (o := .cells #[.int .i64 a0_0, .slice A0_1 l0_1.length c0_1, .int .i64 a0_2] 38 (0,0)) (by (with_reducible repeat (refine blk_drewN ?_ _));exact BK358.out) hb);have n1_:=Aside0.mk (below_step (by repeat ((with_reducible first | exact HB.out | apply pw_below_drewN))) hb);clear BK358;clear HB;have BK358:=n0_;have HB:=n1_;clear n0_ n1_;(try clear hb)))
   go_ret2
   exact ⟨by rfl,by exact HB.out⟩
  ·replace c6:=Bool.eq_false_iff.mpr c6
   subst c6
   have H1 : (some (0,false)) = some (r1,r2):=by rw [if_neg (show ¬ (false = true) by decide)] at H;exact H
   clear H
   have H:=H1
   clear H1
   simp only [Option.some.injEq,Prod.mk.injEq] at H
   obtain ⟨rfl,rfl⟩ := H
   go_enter Try.func26,Try.ntmps26
   go_wp2_with (first | ((with_reducible refine gate_dst (N:=2) rfl ?_);refine box_event ?hg (N:=2) ?hd (cs:=#[.int .i64 a0_0, .slice A0_1 l0_1.length c0_1, .int .i64 a0_2]) (t:=38) ?hr ?_;(case hd => rfl);(case hg => rfl);(case hr => (go_simp;done));intro gb358 hg w13 hbox hb;have n0_:=Aside0.mk (below_step (by exact HB.out) hb);have n1_:=Aside0.mk (hbox);have n2_:=Aside0.mk ((by rw [hg];exact (below_size (by exact HB.out)) : w.heap.size ≤ gb358));have n3_:=Aside0.mk ((by rw [hg];exact (below_size (by exact HB.out)) : w.heap.size ≤ gb358));clear HB;have HB:=n0_;have BK358:=n1_;have GW358:=n2_;have GE358:=n3_;clear n0_ n1_ n2_ n3_;clear hb hbox hg;have hcz14_0 : w13.cell? ⟨gb358,0,none⟩ = some (.int .i64 a0_0):=(blk_cell BK358.out 0).trans rfl;have hcz14_1 : w13.cell? ⟨gb358,1,none⟩ = some (.slice A0_1 l0_1.length c0_1):=(blk_cell BK358.out 1).trans rfl;have hcz14_2 : w13.cell? ⟨gb358,2,none⟩ = some (.int .i64 a0_2):=(blk_cell BK358.out 2).trans rfl;have hfz14_0:=blk_frozen BK358.out 0;have hfz14_1:=blk_frozen BK358.out 1;have hfz14_2:=blk_frozen BK358.out 2) | ((with_reducible refine gate_callee (f:=54) rfl ?_);refine goesL_ (some 7) rfl rfl Try.func54 (by kernel_rfl) rfl #[.agg #[.int .i64 a0_0, .slice A0_1 l0_1.length c0_1, .int .i64 a0_2]] rfl (by (try simp only [List.map_toArray,List.map_cons,List.map_nil]);rfl) ?_;(with_reducible refine (spec_l22Good.calls k a0_0 _ _ l0_1 a0_2 true _ ?side1 ?side2 A3.out).mono ?_);(case side1 => repeat (exact (Kd.C_below HR0_1.out HB.out)));(case side2 => exact HC0_1.out);rintro e w15 ⟨rfl,hb⟩;refine ⟨_,rfl, ?_⟩;have n0_:=Aside0.mk (blk_below (g:=gb358) (o := .cells #[.int .i64 a0_0, .slice A0_1 l0_1.length c0_1, .int .i64 a0_2] 38 (0,0)) (by exact BK358.out) hb);have n1_:=Aside0.mk (below_step (by exact HB.out) hb);clear BK358;clear HB;have BK358:=n0_;have HB:=n1_;clear n0_ n1_;(try clear hb)) | (go_at_call 41;(with_reducible refine (spec_l1In.calls a1 1 400 false _ A5.out).mono ?_);rintro e w' ⟨rfl,⟨nd,rfl⟩⟩))
   go_ret2
   exact ⟨by rfl,by repeat ((with_reducible first | exact HB.out | apply pw_below_drewN))⟩
 ·replace c4:=Bool.eq_false_iff.mpr c4
  subst c4
  have H1 : (some (0,false)) = some (r1,r2):=by rw [if_neg (show ¬ (false = true) by decide)] at H;exact H
  clear H
  have H:=H1
  clear H1
  simp only [Option.some.injEq,Prod.mk.injEq] at H
  obtain ⟨rfl,rfl⟩ := H
  go_enter Try.func26,Try.ntmps26
  go_wp2_with (first | ((with_reducible refine gate_dst (N:=2) rfl ?_);refine box_event ?hg (N:=2) ?hd (cs:=#[.int .i64 a0_0, .slice A0_1 l0_1.length c0_1, .int .i64 a0_2]) (t:=38) ?hr ?_;(case hd => rfl);(case hg => rfl);(case hr => (go_simp;done));intro gb358 hg w16 hbox hb;have n0_:=Aside0.mk (below_step (by exact HB.out) hb);have n1_:=Aside0.mk (hbox);have n2_:=Aside0.mk ((by rw [hg];exact (below_size (by exact HB.out)) : w.heap.size ≤ gb358));have n3_:=Aside0.mk ((by rw [hg];exact (below_size (by exact HB.out)) : w.heap.size ≤ gb358));clear HB;have HB:=n0_;have BK358:=n1_;have GW358:=n2_;have GE358:=n3_;clear n0_ n1_ n2_ n3_;clear hb hbox hg;have hcz17_0 : w16.cell? ⟨gb358,0,none⟩ = some (.int .i64 a0_0):=(blk_cell BK358.out 0).trans rfl;have hcz17_1 : w16.cell? ⟨gb358,1,none⟩ = some (.slice A0_1 l0_1.length c0_1):=(blk_cell BK358.out 1).trans rfl;have hcz17_2 : w16.cell? ⟨gb358,2,none⟩ = some (.int .i64 a0_2):=(blk_cell BK358.out 2).trans rfl;have hfz17_0:=blk_frozen BK358.out 0;have hfz17_1:=blk_frozen BK358.out 1;have hfz17_2:=blk_frozen BK358.out 2) | ((with_reducible refine gate_callee (f:=54) rfl ?_);refine goesL_ (some 7) rfl rfl Try.func54 (by kernel_rfl) rfl #[.agg #[.int .i64 a0_0, .slice A0_1 l0_1.length c0_1, .int .i64 a0_2]] rfl (by (try simp only [List.map_toArray,List.map_cons,List.map_nil]);rfl) ?_;(with_reducible refine (spec_l22Good.calls k a0_0 _ _ l0_1 a0_2 false _ ?side1 ?side2 A3.out).mono ?_);(case side1 => repeat (exact (Kd.C_below HR0_1.out HB.out)));(case side2 => exact HC0_1.out);rintro e w18 ⟨rfl,hb⟩;refine ⟨_,rfl, ?_⟩;have n0_:=Aside0.mk (blk_below (g:=gb358) (o := .cells #[.int .i64 a0_0, .slice A0_1 l0_1.length c0_1, .int .i64 a0_2] 38 (0,0)) (by exact BK358.out) hb);have n1_:=Aside0.mk (below_step (by exact HB.out) hb);clear BK358;clear HB;have BK358:=n0_;have HB:=n1_;clear n0_ n1_;(try clear hb)))
  go_ret2
  exact ⟨by rfl,by exact HB.out⟩

end Go.Proofs.Ytafdafmoiocjgaa.PFnCharges
