-- Written by a program of this session, over the kit's print (wip/xprint.py)
import Derived.Test.YteebkbikpamkmaaPFnHoldsx0
import Derived.Test.YteebkbikpamkmaaPFnHoldsx4
import Derived.Test.YteebkbikpamkmaaPFnHoldsx6
import Derived.Test.YteebkbikpamkmaaPFnHoldsx10
namespace Go.Proofs.Yteebkbikpamkmaa.PFnHolds
open Go.RowKit Go.Proofs.YteebkbikpamkmaaW.PrintWords Go.Proofs.YteebkbikpamkmaaW.PrintLast Go.Proofs.YteebkbikpamkmaaW.PrintMore
attribute [local go_sem] max2_int min2_int max_two min_two max_three min_three max_four min_four   -- for this text's walks alone
set_option linter.unusedVariables false
set_option linter.unusedSimpArgs false

/-! ### impl_HeldContainers: function 13 -/
mutual
def impl_HeldContainers.j0 : Nat → List (S52) → Int → Bool → Option (List ByteArray × Bool)
 | 0,_,_,_ => none
 | k + 1,x0,x1,x16 => if x16 = true then (some (([] : List ByteArray),false)) else (impl_HeldContainers.l0 k x0 x1 (([] : List ByteArray)) x0 (x0.length : Int) 0)
def impl_HeldContainers.l0 : Nat → List (S52) → Int → List ByteArray → List (S52) → Int → Int → Option (List ByteArray × Bool)
 | 0,_,_,_,_,_,_ => none
 | k + 1,x0,x1,x6,x18,x19,x20 => if x20 < x19 then (if 0 ≤ x20 then (if x20 < (x18.length : Int) then ((impl_holdsOn.f k x0 ((rd_T52 x18 x20).f1) x1).bind fun t375 => (if t375 = 0 then (impl_HeldContainers.l0 k x0 x1 x6 x18 x19 (wrap64 (x20 + 1))) else (if x6.length < 8796093022208 then (impl_HeldContainers.l0 k x0 x1 (x6 ++ [(rd_T52 x18 x20).f1]) x18 x19 (wrap64 (x20 + 1))) else (none)))) else (none)) else (none)) else ((slices_Sort_string.f x6).bind fun t379 => ((slices_Compact_string.f t379).bind fun t380 => (some (t380,true))))
end
def impl_HeldContainers.f (k : Nat) (l0 : List (S52)) (a1 : Int) : Option (List ByteArray × Bool):=(impl_IsValidFile.f k l0).bind fun t368 => (if t368 = true then ((impl_within.f a1 0 240).bind fun t369 => (impl_HeldContainers.j0 k l0 a1 (!t369))) else (impl_HeldContainers.j0 k l0 a1 true))
theorem impl_HeldContainers.mono_l : ∀ k,(∀ y0 y1 y2,LeO (impl_HeldContainers.j0 k y0 y1 y2) (impl_HeldContainers.j0 (k + 1) y0 y1 y2)) ∧ (∀ y0 y1 y2 y3 y4 y5,LeO (impl_HeldContainers.l0 k y0 y1 y2 y3 y4 y5) (impl_HeldContainers.l0 (k + 1) y0 y1 y2 y3 y4 y5))
 | 0 => ⟨fun _ _ _ r h => by simp [impl_HeldContainers.j0] at h,fun _ _ _ _ _ _ r h => by simp [impl_HeldContainers.l0] at h⟩
 | k + 1 => by
  obtain ⟨ih0,ih1⟩ := impl_HeldContainers.mono_l k
  refine ⟨?_, ?_⟩
  ·intro y0 y1 y2
   unfold impl_HeldContainers.j0
   repeat' first
   | (with_reducible exact ih0 _ _ _)
   | (with_reducible exact ih1 _ _ _ _ _ _)
   | (with_reducible exact impl_IsValidFile.mono _ _)
   | (with_reducible exact impl_holdsOn.mono _ _ _ _)
   | (with_reducible exact LeO.refl _)
   | (with_reducible exact LeO.none _)
   | (with_reducible refine LeO.ite ?_ ?_)
   | (with_reducible refine LeO.bind ?_ (fun _ => ?_))
   | exact ih0 _ _ _
   | exact ih1 _ _ _ _ _ _
   | exact impl_IsValidFile.mono _ _
   | exact impl_holdsOn.mono _ _ _ _
   | exact LeO.none _
   | refine LeO.ite ?_ ?_
   | refine LeO.bind ?_ (fun _ => ?_)
  ·intro y0 y1 y2 y3 y4 y5
   unfold impl_HeldContainers.l0
   repeat' first
   | (with_reducible exact ih0 _ _ _)
   | (with_reducible exact ih1 _ _ _ _ _ _)
   | (with_reducible exact impl_IsValidFile.mono _ _)
   | (with_reducible exact impl_holdsOn.mono _ _ _ _)
   | (with_reducible exact LeO.refl _)
   | (with_reducible exact LeO.none _)
   | (with_reducible refine LeO.ite ?_ ?_)
   | (with_reducible refine LeO.bind ?_ (fun _ => ?_))
   | exact ih0 _ _ _
   | exact ih1 _ _ _ _ _ _
   | exact impl_IsValidFile.mono _ _
   | exact impl_holdsOn.mono _ _ _ _
   | exact LeO.none _
   | refine LeO.ite ?_ ?_
   | refine LeO.bind ?_ (fun _ => ?_)
theorem impl_HeldContainers.mono : ∀ a0 a1 k,LeO (impl_HeldContainers.f k a0 a1) (impl_HeldContainers.f (k + 1) a0 a1):=by
 intro a0 a1 k
 obtain ⟨ih0,ih1⟩ := impl_HeldContainers.mono_l k
 unfold impl_HeldContainers.f
 repeat' first
   | (with_reducible exact ih0 _ _ _)
   | (with_reducible exact ih1 _ _ _ _ _ _)
   | (with_reducible exact impl_IsValidFile.mono _ _)
   | (with_reducible exact impl_holdsOn.mono _ _ _ _)
   | (with_reducible exact LeO.refl _)
   | (with_reducible exact LeO.none _)
   | (with_reducible refine LeO.ite ?_ ?_)
   | (with_reducible refine LeO.bind ?_ (fun _ => ?_))
   | exact ih0 _ _ _
   | exact ih1 _ _ _ _ _ _
   | exact impl_IsValidFile.mono _ _
   | exact impl_holdsOn.mono _ _ _ _
   | exact LeO.none _
   | refine LeO.ite ?_ ?_
   | refine LeO.bind ?_ (fun _ => ?_)
set_option maxHeartbeats 8000000 in
set_option maxRecDepth 100000 in
theorem impl_HeldContainers.calls (k : Nat) (A0 : Option Addr) (c0 : Nat) (l0 : List (S52)) (a1 : Int) (r1 : List ByteArray) (r2 : Bool) (w : World) (hr0 : Kd.C k52 w A0 l0.length l0) (hc0 : l0.length ≤ c0) (h : impl_HeldContainers.f k l0 a1 = some (r1,r2)) :
  Calls Try.prog 13 #[.slice A0 l0.length c0, .int .i64 a1] w fun e w' => ∃ v0_ : Value,e = .returned (.tuple #[v0_, .bool r2]) ∧ Kd.R Kd.string 9 w' w.heap.size (fun _ => True) v0_ r1 ∧ Below w.heap.size w w':=by
 have hu52:=Try.underlying52
 have HR0:=Aside0.mk hr0
 have HC0:=Aside0.mk hc0
 clear hr0 hc0
 have HB:=Aside0.mk (Below.refl w.heap.size w)
 have H : ((impl_IsValidFile.f k l0).bind fun t368 => (if t368 = true then ((impl_within.f a1 0 240).bind fun t369 => (impl_HeldContainers.j0 k l0 a1 (!t369))) else (impl_HeldContainers.j0 k l0 a1 true))) = some (r1,r2):=h
 clear h
 have HC3:=Aside0.mk H
 clear H
 go_enter Try.func13,Try.ntmps13
 go_upto_region 1 with (fail)
 go_cut [16] (fun v16 wc => ∃ (kq : Nat) (x16_2 : Bool),v16 = .bool x16_2 ∧ Aside0 (impl_HeldContainers.j0 kq l0 a1 x16_2 = some (r1,r2)) ∧ Aside0 (kq ≤ k) ∧ Aside0 (Below w.heap.size w wc))
 case first =>
  have H:=HC3.out
  clear HC3
  replace H:=Option.bind_eq_some_iff.mp H
  obtain ⟨t368,A40,H⟩ := H
  replace H : (if t368 = true then ((impl_within.f a1 0 240).bind fun t369 => (impl_HeldContainers.j0 k l0 a1 (!t369))) else (impl_HeldContainers.j0 k l0 a1 true)) = some (r1,r2):=H
  have A4:=Aside0.mk A40
  clear A40
  by_cases c5 : t368 = true
  ·subst c5
   have H1 : ((impl_within.f a1 0 240).bind fun t369 => (impl_HeldContainers.j0 k l0 a1 (!t369))) = some (r1,r2):=by rw [if_pos rfl] at H;exact H
   clear H
   have H:=H1
   clear H1
   replace H:=Option.bind_eq_some_iff.mp H
   obtain ⟨t369,A60,H⟩ := H
   replace H : (impl_HeldContainers.j0 k l0 a1 (!t369)) = some (r1,r2):=H
   have A6:=Aside0.mk A60
   clear A60
   have H':=Aside0.mk H
   clear H
   go_wp2_with (first | ((with_reducible refine gate_callee (f:=11) rfl ?_);refine goesL_ (some 10) rfl rfl Try.func11 (by kernel_rfl) rfl #[.slice A0 l0.length c0] rfl (by (try simp only [List.map_toArray,List.map_cons,List.map_nil]);rfl) ?_;(with_reducible refine (impl_IsValidFile.calls k _ _ l0 true _ ?side1 ?side2 A4.out).mono ?_);(case side1 => repeat (exact (Kd.C_below HR0.out HB.out)));(case side2 => exact HC0.out);rintro e w7 ⟨rfl,hb⟩;refine ⟨_,rfl, ?_⟩;have n0_:=Aside0.mk (below_step (by exact HB.out) hb);clear HB;have HB:=n0_;clear n0_;(try clear hb)) | (go_at_call 39;(with_reducible refine (impl_within.calls a1 0 240 t369 _ A6.out).mono ?_);rintro e w' ⟨rfl,⟨nd,rfl⟩⟩))
   go_meet
   case rel => exact ⟨_,(!t369),(by rfl),H',⟨by omega⟩,⟨by repeat ((with_reducible first | exact HB.out | apply pw_below_drewN))⟩⟩
  ·replace c5:=Bool.eq_false_iff.mpr c5
   subst c5
   have H1 : (impl_HeldContainers.j0 k l0 a1 true) = some (r1,r2):=by rw [if_neg (show ¬ (false = true) by decide)] at H;exact H
   clear H
   have H:=H1
   clear H1
   have H':=Aside0.mk H
   clear H
   go_wp2_with (((with_reducible refine gate_callee (f:=11) rfl ?_);refine goesL_ (some 10) rfl rfl Try.func11 (by kernel_rfl) rfl #[.slice A0 l0.length c0] rfl (by (try simp only [List.map_toArray,List.map_cons,List.map_nil]);rfl) ?_;(with_reducible refine (impl_IsValidFile.calls k _ _ l0 false _ ?side1 ?side2 A4.out).mono ?_);(case side1 => repeat (exact (Kd.C_below HR0.out HB.out)));(case side2 => exact HC0.out);rintro e w8 ⟨rfl,hb⟩;refine ⟨_,rfl, ?_⟩;have n0_:=Aside0.mk (below_step (by exact HB.out) hb);clear HB;have HB:=n0_;clear n0_;(try clear hb)))
   go_meet
   case rel => exact ⟨_,(true),(by rfl),H',⟨by omega⟩,⟨by exact HB.out⟩⟩
 case rest =>
  clear HC3
  try clear c1
  try clear p2
  try clear c5
  obtain ⟨kq,x16_2,rfl,HA,HJ2,HB⟩ := hcut
  cases kq with
  | zero => exact absurd HA.out (by simp [impl_HeldContainers.j0])
  | succ kj2 =>
   have H:=HA.out
   clear HA
   simp only [impl_HeldContainers.j0] at H
   by_cases c9 : x16_2 = true
   ·subst c9
    have H1 : (some (([] : List ByteArray),false)) = some (r1,r2):=by rw [if_pos rfl] at H;exact H
    clear H
    have H:=H1
    clear H1
    simp only [Option.some.injEq,Prod.mk.injEq] at H
    obtain ⟨rfl,rfl⟩ := H
    go_wp2
    go_ret2
    exact ⟨_,by rfl,by exact Kd.R_nil _ _ _ _ _,by exact HB.out⟩
   ·replace c9:=Bool.eq_false_iff.mpr c9
    subst c9
    have H1 : (impl_HeldContainers.l0 kj2 l0 a1 (([] : List ByteArray)) l0 (l0.length : Int) 0) = some (r1,r2):=by rw [if_neg (show ¬ (false = true) by decide)] at H;exact H
    clear H
    have H:=H1
    clear H1
    obtain ⟨y370,hy370⟩ : ∃ y_ : List ByteArray,y_ = (([] : List ByteArray)):=⟨_,rfl⟩
    replace H : (impl_HeldContainers.l0 kj2 l0 a1 y370 l0 (l0.length : Int) 0) = some (r1,r2):=by (rw [hy370];with_reducible exact H)
    have Ny370:=Aside0.mk hy370
    clear hy370
    have H':=Aside0.mk H
    clear H
    go_wp2_with (((with_reducible refine gate_dst (N:=17) rfl ?_);refine Kd.R_lit Kd.string _ 9 ?hg (N:=17) ?hd (xs:=([] : List ByteArray)) (inner := []) (ok:=fun _ => True) (okp:=fun _ => True) ?hr ?hp (fun _ hk => hk) trivial (Below.refl _ _) (Nat.le_refl _) (by simp) ?_;(case hd => rfl);(case hg => rfl);(case hr => (go_simp;done));(case hp => exact (Reps.none _ _));intro v371 w10 ho11 hb hg_ hnew_;clear hg_ hnew_;(rw [← Ny370.out] at ho11);have n0_:=Aside0.mk (Kd.R_lower ho11 (below_size (by exact HB.out)));have n1_:=Aside0.mk (below_step (by exact HB.out) hb);clear HB;have HO372:=n0_;have HB:=n1_;clear n0_ n1_;clear hb ho11))
    (skip)
    go_loopg [6,20] kj2 (fun kq v6 v20 w' => ∃ (x6_2 : List ByteArray) (x20_2 : Int),v20 = .int .i64 x20_2 ∧ Aside0 (impl_HeldContainers.l0 kq l0 a1 x6_2 l0 (l0.length : Int) x20_2 = some (r1,r2)) ∧ Aside0 (kq ≤ kj2) ∧ Aside0 (Kd.R Kd.string 9 w' w.heap.size (fun _ => True) v6 x6_2) ∧ Aside0 (Below w.heap.size w w'))
    case atStart => exact ⟨(y370),(0),(by rfl),H',⟨Nat.le_refl _⟩,⟨by exact HO372.out⟩,⟨by exact HB.out⟩⟩
    case round =>
     clear H'
     try clear c1
     try clear p2
     try clear c5
     try clear c9
     try clear c11
     try clear p2
     obtain ⟨x6_2,x20_2,rfl,HA,HK2,HO_6,HB⟩ := hrel
     cases gk with
     | zero => exact absurd HA.out (by simp [impl_HeldContainers.l0])
     | succ k2 =>
      have H:=HA.out
      clear HA
      simp only [impl_HeldContainers.l0] at H
      by_cases c12 : x20_2 < (l0.length : Int)
      ·rw [if_pos c12] at H
       have c12b0 : decide (x20_2 < (l0.length : Int)) = true:=decide_eq_true c12
       clear c12
       by_cases c13 : 0 ≤ x20_2
       ·rw [if_pos c13] at H
        have c13b0 : decide (0 ≤ x20_2) = true:=decide_eq_true c13
        clear c13
        by_cases c14 : x20_2 < (l0.length : Int)
        ·rw [if_pos c14] at H
         have c14b0 : decide (x20_2 < (l0.length : Int)) = true:=decide_eq_true c14
         clear c14
         replace H:=Option.bind_eq_some_iff.mp H
         obtain ⟨t375,A150,H⟩ := H
         replace H : (if t375 = 0 then (impl_HeldContainers.l0 k2 l0 a1 x6_2 l0 (l0.length : Int) (wrap64 (x20_2 + 1))) else (if x6_2.length < 8796093022208 then (impl_HeldContainers.l0 k2 l0 a1 (x6_2 ++ [(rd_T52 l0 x20_2).f1]) l0 (l0.length : Int) (wrap64 (x20_2 + 1))) else (none))) = some (r1,r2):=H
         have A15:=Aside0.mk A150
         clear A150
         by_cases c16 : t375 = 0
         ·rw [if_pos c16] at H
          have c16b0 : (t375 == 0) = true:=beq_iff_eq.mpr c16
          have c16b1 : (t375 != 0) = false:=bne_eq_false_iff_eq.mpr c16
          clear c16
          have H':=Aside0.mk H
          clear H
          have p373 : 0 ≤ (x20_2 : Int):=of_decide_eq_true (by (with_reducible assumption))
          have q373 : x20_2 < (l0.length : Int):=of_decide_eq_true (by (with_reducible assumption))
          obtain ⟨ad373,e373,hx373_0,hx373_1,hx373_2,hx373_3⟩ := at_T52 HR0.out x20_2 p373 q373
          cases e373
          replace hx373_0:=(HB.out.cell (World.block_lt_of_cell? w _ hx373_0)).trans hx373_0
          replace hx373_1:=(HB.out.cell (World.block_lt_of_cell? w _ hx373_1)).trans hx373_1
          replace hx373_2:=(HB.out.cell (World.block_lt_of_cell? w _ hx373_2)).trans hx373_2
          replace hx373_3:=(HB.out.cell (World.block_lt_of_cell? w _ hx373_3)).trans hx373_3
          replace p373:=eq_true p373
          replace q373:=eq_true q373
          go_wp2_with (first | ((with_reducible refine gate_dst (N:=8) rfl ?_);refine box_event ?hg (N:=8) ?hd (cs:=#[.int .i64 0, .string (⟨#[]⟩ : ByteArray), .bool false, .int .i64 0]) (t:=52) ?hr ?_;(case hd => rfl);(case hg => rfl);(case hr => (go_simp;done));intro gb374 hg w17 hbox hb;have n0_:=Aside0.mk (Kd.R_below (by exact HO_6.out) hb);have n1_:=Aside0.mk (below_step (by exact HB.out) hb);have n2_:=Aside0.mk (hbox);have n3_:=Aside0.mk ((by rw [hg];exact (below_size (by exact HB.out)) : w.heap.size ≤ gb374));have n4_:=Aside0.mk ((by rw [hg];exact (below_size (by exact HB.out)) : w.heap.size ≤ gb374));clear HO_6;clear HB;have HO_6:=n0_;have HB:=n1_;have BK374:=n2_;have GW374:=n3_;have GE374:=n4_;clear n0_ n1_ n2_ n3_ n4_;clear hb hbox hg;have hcz18_0 : w17.cell? ⟨gb374,0,none⟩ = some (.int .i64 0):=(blk_cell BK374.out 0).trans rfl;have hcz18_1 : w17.cell? ⟨gb374,1,none⟩ = some (.string (⟨#[]⟩ : ByteArray)):=(blk_cell BK374.out 1).trans rfl;have hcz18_2 : w17.cell? ⟨gb374,2,none⟩ = some (.bool false):=(blk_cell BK374.out 2).trans rfl;have hcz18_3 : w17.cell? ⟨gb374,3,none⟩ = some (.int .i64 0):=(blk_cell BK374.out 3).trans rfl;have hfz18_0:=blk_frozen BK374.out 0;have hfz18_1:=blk_frozen BK374.out 1;have hfz18_2:=blk_frozen BK374.out 2;have hfz18_3:=blk_frozen BK374.out 3) | ((with_reducible refine gate_callee (f:=29) rfl ?_);refine goesL_ (some 28) rfl rfl Try.func29 (by kernel_rfl) rfl #[.slice (some ad373) l0.length c0, .string ((rd_T52 l0 x20_2).f1), .int .i64 a1] rfl (by (try simp only [List.map_toArray,List.map_cons,List.map_nil]);rfl) ?_;(with_reducible refine (impl_holdsOn.calls k2 _ _ l0 ((rd_T52 l0 x20_2).f1) a1 t375 _ ?side1 ?side2 A15.out).mono ?_);(case side1 => exact Kd.C_below HR0.out (by repeat ((with_reducible first | exact HB.out | refine below_set ?_ GE374.out))));(case side2 => exact HC0.out);rintro e w19 ⟨rfl,hb⟩;refine ⟨_,rfl, ?_⟩;have n0_:=Aside0.mk (Kd.R_below (by exact (Kd.R_mono (Kd.R_far (p:=⟨gb374,3,none⟩) (Kd.R_far (p:=⟨gb374,2,none⟩) (Kd.R_far (p:=⟨gb374,1,none⟩) (Kd.R_far (p:=⟨gb374,0,none⟩) (Kd.R_types HO_6.out BK374.out (by decide)) (fun _ hk => hk.2) (.int .i64 ((rd_T52 l0 x20_2).f0))) (fun _ hk => hk.2) (.string ((rd_T52 l0 x20_2).f1))) (fun _ hk => hk.2) (.bool ((rd_T52 l0 x20_2).f2))) (fun _ hk => hk.2) (.int .i64 ((rd_T52 l0 x20_2).f3))) (fun _ h_ => h_.1))) hb);have n1_:=Aside0.mk (blk_below (g:=gb374) (o := .cells #[.int .i64 ((rd_T52 l0 x20_2).f0), .string ((rd_T52 l0 x20_2).f1), .bool ((rd_T52 l0 x20_2).f2), .int .i64 ((rd_T52 l0 x20_2).f3)] 52 (0,0)) (by refine blk_put (cs:=#[.int .i64 ((rd_T52 l0 x20_2).f0), .string ((rd_T52 l0 x20_2).f1), .bool ((rd_T52 l0 x20_2).f2), .int .i64 0]) ?_ 3 _ rfl;refine blk_put (cs:=#[.int .i64 ((rd_T52 l0 x20_2).f0), .string ((rd_T52 l0 x20_2).f1), .bool false, .int .i64 0]) ?_ 2 _ rfl;refine blk_put (cs:=#[.int .i64 ((rd_T52 l0 x20_2).f0), .string (⟨#[]⟩ : ByteArray), .bool false, .int .i64 0]) ?_ 1 _ rfl;refine blk_put (cs:=#[.int .i64 0, .string (⟨#[]⟩ : ByteArray), .bool false, .int .i64 0]) ?_ 0 _ rfl;exact BK374.out) hb);have n2_:=Aside0.mk (below_step (by repeat ((with_reducible first | exact HB.out | refine below_set ?_ GE374.out))) hb);clear HO_6;clear BK374;clear HB;have HO_6:=n0_;have BK374:=n1_;have HB:=n2_;clear n0_ n1_ n2_;(try clear hb)))
          go_roundg k2
          case measure => have:=HJ2.out;have:=HK2.out;omega
          case rel => exact ⟨(x6_2),(wrap64 (x20_2 + 1)),(by rfl),H',⟨by have:=HJ2.out;have:=HK2.out;omega⟩,⟨by exact HO_6.out⟩,⟨by exact HB.out⟩⟩
         ·rw [if_neg c16] at H
          have c16b0 : (t375 == 0) = false:=beq_eq_false_iff_ne.mpr c16
          have c16b1 : (t375 != 0) = true:=bne_iff_ne.mpr c16
          by_cases c20 : x6_2.length < 8796093022208
          ·rw [if_pos c20] at H
           have LMc20:=Aside0.mk c20
           clear c20
           obtain ⟨y376,hy376⟩ : ∃ y_ : List ByteArray,y_ = (x6_2 ++ [(rd_T52 l0 x20_2).f1]):=⟨_,rfl⟩
           replace H : (impl_HeldContainers.l0 k2 l0 a1 y376 l0 (l0.length : Int) (wrap64 (x20_2 + 1))) = some (r1,r2):=by (rw [hy376];with_reducible exact H)
           have Ny376:=Aside0.mk hy376
           clear hy376
           have H':=Aside0.mk H
           clear H
           have p373 : 0 ≤ (x20_2 : Int):=of_decide_eq_true (by (with_reducible assumption))
           have q373 : x20_2 < (l0.length : Int):=of_decide_eq_true (by (with_reducible assumption))
           obtain ⟨ad373,e373,hx373_0,hx373_1,hx373_2,hx373_3⟩ := at_T52 HR0.out x20_2 p373 q373
           cases e373
           replace hx373_0:=(HB.out.cell (World.block_lt_of_cell? w _ hx373_0)).trans hx373_0
           replace hx373_1:=(HB.out.cell (World.block_lt_of_cell? w _ hx373_1)).trans hx373_1
           replace hx373_2:=(HB.out.cell (World.block_lt_of_cell? w _ hx373_2)).trans hx373_2
           replace hx373_3:=(HB.out.cell (World.block_lt_of_cell? w _ hx373_3)).trans hx373_3
           replace p373:=eq_true p373
           replace q373:=eq_true q373
           go_wp2_with (first | ((with_reducible refine gate_dst (N:=8) rfl ?_);refine box_event ?hg (N:=8) ?hd (cs:=#[.int .i64 0, .string (⟨#[]⟩ : ByteArray), .bool false, .int .i64 0]) (t:=52) ?hr ?_;(case hd => rfl);(case hg => rfl);(case hr => (go_simp;done));intro gb374 hg w21 hbox hb;have n0_:=Aside0.mk (Kd.R_below (by exact HO_6.out) hb);have n1_:=Aside0.mk (below_step (by exact HB.out) hb);have n2_:=Aside0.mk (hbox);have n3_:=Aside0.mk ((by rw [hg];exact (below_size (by exact HB.out)) : w.heap.size ≤ gb374));have n4_:=Aside0.mk ((by rw [hg];exact (below_size (by exact HB.out)) : w.heap.size ≤ gb374));clear HO_6;clear HB;have HO_6:=n0_;have HB:=n1_;have BK374:=n2_;have GW374:=n3_;have GE374:=n4_;clear n0_ n1_ n2_ n3_ n4_;clear hb hbox hg;have hcz22_0 : w21.cell? ⟨gb374,0,none⟩ = some (.int .i64 0):=(blk_cell BK374.out 0).trans rfl;have hcz22_1 : w21.cell? ⟨gb374,1,none⟩ = some (.string (⟨#[]⟩ : ByteArray)):=(blk_cell BK374.out 1).trans rfl;have hcz22_2 : w21.cell? ⟨gb374,2,none⟩ = some (.bool false):=(blk_cell BK374.out 2).trans rfl;have hcz22_3 : w21.cell? ⟨gb374,3,none⟩ = some (.int .i64 0):=(blk_cell BK374.out 3).trans rfl;have hfz22_0:=blk_frozen BK374.out 0;have hfz22_1:=blk_frozen BK374.out 1;have hfz22_2:=blk_frozen BK374.out 2;have hfz22_3:=blk_frozen BK374.out 3) | ((with_reducible refine gate_callee (f:=29) rfl ?_);refine goesL_ (some 28) rfl rfl Try.func29 (by kernel_rfl) rfl #[.slice (some ad373) l0.length c0, .string ((rd_T52 l0 x20_2).f1), .int .i64 a1] rfl (by (try simp only [List.map_toArray,List.map_cons,List.map_nil]);rfl) ?_;(with_reducible refine (impl_holdsOn.calls k2 _ _ l0 ((rd_T52 l0 x20_2).f1) a1 t375 _ ?side1 ?side2 A15.out).mono ?_);(case side1 => exact Kd.C_below HR0.out (by repeat ((with_reducible first | exact HB.out | refine below_set ?_ GE374.out))));(case side2 => exact HC0.out);rintro e w23 ⟨rfl,hb⟩;refine ⟨_,rfl, ?_⟩;have n0_:=Aside0.mk (Kd.R_below (by exact (Kd.R_mono (Kd.R_far (p:=⟨gb374,3,none⟩) (Kd.R_far (p:=⟨gb374,2,none⟩) (Kd.R_far (p:=⟨gb374,1,none⟩) (Kd.R_far (p:=⟨gb374,0,none⟩) (Kd.R_types HO_6.out BK374.out (by decide)) (fun _ hk => hk.2) (.int .i64 ((rd_T52 l0 x20_2).f0))) (fun _ hk => hk.2) (.string ((rd_T52 l0 x20_2).f1))) (fun _ hk => hk.2) (.bool ((rd_T52 l0 x20_2).f2))) (fun _ hk => hk.2) (.int .i64 ((rd_T52 l0 x20_2).f3))) (fun _ h_ => h_.1))) hb);have n1_:=Aside0.mk (blk_below (g:=gb374) (o := .cells #[.int .i64 ((rd_T52 l0 x20_2).f0), .string ((rd_T52 l0 x20_2).f1), .bool ((rd_T52 l0 x20_2).f2), .int .i64 ((rd_T52 l0 x20_2).f3)] 52 (0,0)) (by refine blk_put (cs:=#[.int .i64 ((rd_T52 l0 x20_2).f0), .string ((rd_T52 l0 x20_2).f1), .bool ((rd_T52 l0 x20_2).f2), .int .i64 0]) ?_ 3 _ rfl;refine blk_put (cs:=#[.int .i64 ((rd_T52 l0 x20_2).f0), .string ((rd_T52 l0 x20_2).f1), .bool false, .int .i64 0]) ?_ 2 _ rfl;refine blk_put (cs:=#[.int .i64 ((rd_T52 l0 x20_2).f0), .string (⟨#[]⟩ : ByteArray), .bool false, .int .i64 0]) ?_ 1 _ rfl;refine blk_put (cs:=#[.int .i64 0, .string (⟨#[]⟩ : ByteArray), .bool false, .int .i64 0]) ?_ 0 _ rfl;exact BK374.out) hb);have n2_:=Aside0.mk (below_step (by repeat ((with_reducible first | exact HB.out | refine below_set ?_ GE374.out))) hb);clear HO_6;clear BK374;clear HB;have HO_6:=n0_;have BK374:=n1_;have HB:=n2_;clear n0_ n1_ n2_;(try clear hb);have hcz24_0 : w23.cell? ⟨gb374,0,none⟩ = some (.int .i64 ((rd_T52 l0 x20_2).f0)):=(blk_cell BK374.out 0).trans rfl;have hcz24_1 : w23.cell? ⟨gb374,1,none⟩ = some (.string ((rd_T52 l0 x20_2).f1)):=(blk_cell BK374.out 1).trans rfl;have hcz24_2 : w23.cell? ⟨gb374,2,none⟩ = some (.bool ((rd_T52 l0 x20_2).f2)):=(blk_cell BK374.out 2).trans rfl;have hcz24_3 : w23.cell? ⟨gb374,3,none⟩ = some (.int .i64 ((rd_T52 l0 x20_2).f3)):=(blk_cell BK374.out 3).trans rfl;have hfz24_0:=blk_frozen BK374.out 0;have hfz24_1:=blk_frozen BK374.out 1;have hfz24_2:=blk_frozen BK374.out 2;have hfz24_3:=blk_frozen BK374.out 3) | ((with_reducible refine gate_builtin (b := .append) (xs:=#[.tmp 30, .tmp 33]) rfl ?_);at_builtin;refine Kd.R_append Kd.string (w0:=w) w.heap.size rfl (.tmp 30) (.tmp 33) 35 9 (.string ⟨#[]⟩) 16 rfl Try.underlying35 info9 rfl (by decide) (by omega) u6 x6_2 ((rd_T52 l0 x20_2).f1) [.string ((rd_T52 l0 x20_2).f1)] (fun _ => True) (fun _ => False) rfl rfl ?aP (fun _ hk => hk.elim) ?aF ?aO ?aB ?aS ?aL ?_;(case aP => exact rfl);(case aB => exact (by exact HB.out));(case aF => exact (fun _ _ => trivial));(case aO => exact (by exact HO_6.out));(case aS => exact (below_size (by exact HB.out)));(case aL => have:=LMc20.out;omega);intro v377 w25 ho hb hg hat;rw [← Ny376.out] at ho;have n0_:=Aside0.mk (blk_grown (g:=gb374) (o := .cells #[.int .i64 ((rd_T52 l0 x20_2).f0), .string ((rd_T52 l0 x20_2).f1), .bool ((rd_T52 l0 x20_2).f2), .int .i64 ((rd_T52 l0 x20_2).f3)] 52 (0,0)) (by exact BK374.out) hg (Kd.R_ne HO_6.out BK374.out (by decide)));have n1_:=Aside0.mk (hb);have n2_:=Aside0.mk (ho);clear BK374;clear HB;clear HO_6;have BK374:=n0_;have HB:=n1_;have HO378:=n2_;clear n0_ n1_ n2_;clear ho hb hg hat))
           go_roundg k2
           case measure => have:=HJ2.out;have:=HK2.out;omega
           case rel => exact ⟨(y376),(wrap64 (x20_2 + 1)),(by rfl),H',⟨by have:=HJ2.out;have:=HK2.out;omega⟩,⟨by exact HO378.out⟩,⟨by exact HB.out⟩⟩
          ·rw [if_neg c20] at H
           exact absurd H (by simp)
        ·rw [if_neg c14] at H
         exact absurd H (by simp)
       ·rw [if_neg c13] at H
        exact absurd H (by simp)
      ·rw [if_neg c12] at H
       have c12b0 : decide (x20_2 < (l0.length : Int)) = false:=decide_eq_false c12
       clear c12
       replace H:=Option.bind_eq_some_iff.mp H
       obtain ⟨t379,A260,H⟩ := H
       replace H : ((slices_Compact_string.f t379).bind fun t380 => (some (t380,true))) = some (r1,r2):=H
       have A26:=Aside0.mk A260
       clear A260
       replace H:=Option.bind_eq_some_iff.mp H
       obtain ⟨t380,A270,H⟩ := H
       replace H : (some (t380,true)) = some (r1,r2):=H
       have A27:=Aside0.mk A270
       clear A270
       simp only [Option.some.injEq,Prod.mk.injEq] at H
       obtain ⟨rfl,rfl⟩ := H
       obtain ⟨Ao28,co28,eo28⟩ := Kd.R_slice HO_6.out
       subst eo28
       go_wp2_with (first | ((with_reducible refine gate_callee (f:=40) rfl ?_);refine goesL_ (some 37) rfl rfl Try.func40 (by kernel_rfl) rfl #[.slice Ao28 x6_2.length co28] rfl (by (try simp only [List.map_toArray,List.map_cons,List.map_nil]);rfl) ?_;(with_reducible refine (slices_Sort_string.calls (fun k_ => some k_ = (.slice Ao28 x6_2.length co28 : Value).ownBlock) (.slice Ao28 x6_2.length co28) x6_2 t379 w _ ?side1 ?side2 A26.out).mono ?_);(case side1 => exact HB.out);(case side2 => exact Kd.R_tight rfl HO_6.out);rintro e w29 ⟨rfl,hy0,hb,hkp⟩;refine ⟨_,rfl, ?_⟩;have n0_:=Aside0.mk (Kd.R_reok rfl hy0 (fun k_ e_ => HO_6.out.1 k_ e_));have n1_:=Aside0.mk (hb);clear HO_6;clear HB;have HO_6:=n0_;have HB:=n1_;clear n0_ n1_;(try clear hb);(try clear hkp);(try clear hy0)) | ((with_reducible refine gate_callee (f:=41) rfl ?_);refine goesL_ (some 39) rfl rfl Try.func41 (by kernel_rfl) rfl #[.slice Ao28 t379.length co28] rfl (by (try simp only [List.map_toArray,List.map_cons,List.map_nil]);(rw [show t379.length = x6_2.length from (Kd.R_reads' HO_6.out).1.symm] <;> rfl)) ?_;(refine (slices_Compact_string.made (w0:=w) (A0:=Ao28) (c0:=co28) (l0:=t379) (by rw [show t379.length = x6_2.length from (Kd.R_reads' HO_6.out).1.symm];exact HO_6.out) (by exact HB.out) A27.out).mono ?_);rintro e w30 ⟨v381,rfl,ho0,hb⟩;refine ⟨_,rfl, ?_⟩;have n1_:=Aside0.mk ho0;have n3_:=Aside0.mk hb;clear HO_6;clear HB;have HO382:=n1_;have HB:=n3_;clear n1_ n3_ hb ho0))
       go_ret2
       exact ⟨_,by rfl,by exact Kd.R_mono HO382.out (fun _ hk => trivial),by exact HB.out⟩

/-! ### spec_l20By: function 42 -/
def spec_l20By.l0 : Nat → List (S52) → Int → Int → Option (Int)
 | 0,_,_,_ => none
 | k + 1,x0,x1,x5 => if x5 < (x0.length : Int) then (if 0 ≤ x5 then (if ((rd_T52 x0 x5).f0) ≤ x1 then (spec_l20By.l0 k x0 x1 (wrap64 (x5 + 1))) else (some x5)) else (none)) else (some x5)
def spec_l20By.f (k : Nat) (l0 : List (S52)) (a1 : Int) : Option (Int):=spec_l20By.l0 k l0 a1 0
theorem spec_l20By.mono_l : ∀ k,(∀ y0 y1 y2,LeO (spec_l20By.l0 k y0 y1 y2) (spec_l20By.l0 (k + 1) y0 y1 y2))
 | 0 => fun _ _ _ r h => by simp [spec_l20By.l0] at h
 | k + 1 => by
  have ih0:=spec_l20By.mono_l k
  ·intro y0 y1 y2
   unfold spec_l20By.l0
   repeat' first
   | (with_reducible exact ih0 _ _ _)
   | (with_reducible exact LeO.refl _)
   | (with_reducible exact LeO.none _)
   | (with_reducible refine LeO.ite ?_ ?_)
   | (with_reducible refine LeO.bind ?_ (fun _ => ?_))
   | exact ih0 _ _ _
   | exact LeO.none _
   | refine LeO.ite ?_ ?_
   | refine LeO.bind ?_ (fun _ => ?_)
theorem spec_l20By.mono : ∀ a0 a1 k,LeO (spec_l20By.f k a0 a1) (spec_l20By.f (k + 1) a0 a1):=by
 intro a0 a1 k
 have ih0:=spec_l20By.mono_l k
 unfold spec_l20By.f
 repeat' first
   | (with_reducible exact ih0 _ _ _)
   | (with_reducible exact LeO.refl _)
   | (with_reducible exact LeO.none _)
   | (with_reducible refine LeO.ite ?_ ?_)
   | (with_reducible refine LeO.bind ?_ (fun _ => ?_))
   | exact ih0 _ _ _
   | exact LeO.none _
   | refine LeO.ite ?_ ?_
   | refine LeO.bind ?_ (fun _ => ?_)
set_option maxHeartbeats 8000000 in
set_option maxRecDepth 100000 in
theorem spec_l20By.calls (k : Nat) (A0 : Option Addr) (c0 : Nat) (l0 : List (S52)) (a1 : Int) (r : Int) (w : World) (hr0 : Kd.C k52 w A0 l0.length l0) (hc0 : l0.length ≤ c0) (h : spec_l20By.f k l0 a1 = some r) :
  Calls Try.prog 42 #[.slice A0 l0.length c0, .int .i64 a1] w fun e w' => e = .returned (.int .i64 r) ∧ Drawn0 w w':=by
 have HR0:=Aside0.mk hr0
 have HC0:=Aside0.mk hc0
 clear hr0 hc0
 have H : (spec_l20By.l0 k l0 a1 0) = some r:=h
 clear h
 have H':=Aside0.mk H
 clear H
 go_enter Try.func42,Try.ntmps42
 go_wp2
 go_loopg [5] k (fun kq v5 w' => ∃ (x5_1 : Int),v5 = .int .i64 x5_1 ∧ Aside0 (spec_l20By.l0 kq l0 a1 x5_1 = some r) ∧ Aside0 (kq ≤ k) ∧ Drawn0 w w')
 case atStart => exact ⟨(0),(by rfl),H',⟨Nat.le_refl _⟩,by repeat (exact Drawn0.refl _)⟩
 case round =>
  clear H'
  try clear p2
  obtain ⟨x5_1,rfl,HA,HK1,⟨m1,rfl⟩⟩ := hrel
  cases gk with
  | zero => exact absurd HA.out (by simp [spec_l20By.l0])
  | succ k1 =>
   have H:=HA.out
   clear HA
   simp only [spec_l20By.l0] at H
   by_cases c3 : x5_1 < (l0.length : Int)
   ·rw [if_pos c3] at H
    have c3b0 : decide (x5_1 < (l0.length : Int)) = true:=decide_eq_true c3
    clear c3
    by_cases c4 : 0 ≤ x5_1
    ·rw [if_pos c4] at H
     have c4b0 : decide (0 ≤ x5_1) = true:=decide_eq_true c4
     clear c4
     by_cases c5 : ((rd_T52 l0 x5_1).f0) ≤ a1
     ·rw [if_pos c5] at H
      have c5b0 : decide (((rd_T52 l0 x5_1).f0) ≤ a1) = true:=decide_eq_true c5
      clear c5
      have H':=Aside0.mk H
      clear H
      have p383 : 0 ≤ (x5_1 : Int):=of_decide_eq_true (by (with_reducible assumption))
      have q383 : x5_1 < (l0.length : Int):=of_decide_eq_true (by (with_reducible assumption))
      obtain ⟨ad383,e383,hx383_0,hx383_1,hx383_2,hx383_3⟩ := at_T52 HR0.out x5_1 p383 q383
      cases e383
      replace p383:=eq_true p383
      replace q383:=eq_true q383
      go_wp2
      go_roundg k1
      case measure => have:=HK1.out;omega
      case rel => exact ⟨(wrap64 (x5_1 + 1)),(by rfl),H',⟨by have:=HK1.out;omega⟩,by repeat (first | exact Drawn0.refl _ | apply Drawn0.step)⟩
     ·rw [if_neg c5] at H
      have c5b0 : decide (((rd_T52 l0 x5_1).f0) ≤ a1) = false:=decide_eq_false c5
      clear c5
      obtain rfl:=Option.some.inj H
      have p383 : 0 ≤ (x5_1 : Int):=of_decide_eq_true (by (with_reducible assumption))
      have q383 : x5_1 < (l0.length : Int):=of_decide_eq_true (by (with_reducible assumption))
      obtain ⟨ad383,e383,hx383_0,hx383_1,hx383_2,hx383_3⟩ := at_T52 HR0.out x5_1 p383 q383
      cases e383
      replace p383:=eq_true p383
      replace q383:=eq_true q383
      go_wp2
      go_ret
      exact ⟨by rfl,by repeat (first | exact Drawn0.refl _ | apply Drawn0.step)⟩
    ·rw [if_neg c4] at H
     exact absurd H (by simp)
   ·rw [if_neg c3] at H
    have c3b0 : decide (x5_1 < (l0.length : Int)) = false:=decide_eq_false c3
    clear c3
    obtain rfl:=Option.some.inj H
    go_wp2
    go_ret
    exact ⟨by rfl,by repeat (first | exact Drawn0.refl _ | apply Drawn0.step)⟩

end Go.Proofs.Yteebkbikpamkmaa.PFnHolds
