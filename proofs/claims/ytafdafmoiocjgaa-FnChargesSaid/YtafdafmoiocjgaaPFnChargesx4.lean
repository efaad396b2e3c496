-- Written by a program of this session, over the kit's print (wip/xprint.py)
import Derived.Test.YtafdafmoiocjgaaPFnChargesx0
import Derived.Test.YtafdafmoiocjgaaPFnChargesx3
namespace Go.Proofs.Ytafdafmoiocjgaa.PFnCharges
open Go.RowKit Go.Proofs.YtafdafmoiocjgaaW.PrintWords Go.Proofs.YtafdafmoiocjgaaW.PrintLast Go.Proofs.YtafdafmoiocjgaaW.PrintMore
attribute [local go_sem] max2_int min2_int max_two min_two max_three min_three max_four min_four   -- for this text's walks alone
set_option linter.unusedVariables false
set_option linter.unusedSimpArgs false

/-! ### impl_splitStay: function 52 -/
def impl_splitStay.l0 : Nat → List Int → Int → List (S51) → Int → Int → Int → List (S51) → Int → Option (List Int)
 | 0,_,_,_,_,_,_,_,_ => none
 | k + 1,x5,x6,x21,x22,x23,x246000,x246001,x246002 => if x23 < x22 then (if 0 ≤ x23 then (if x23 < (x21.length : Int) then (if x23 = (wrap64 ((x246001.length : Int) - 1)) then (if x5.length < 17592186044416 then (impl_splitStay.l0 k (x5 ++ [x6]) (wrap64 (x6 - x6)) x21 x22 (wrap64 (x23 + 1)) x246000 x246001 x246002) else (none)) else (if x5.length < 17592186044416 then (impl_splitStay.l0 k (x5 ++ [mn x6 ((rd_T51 x21 x23).f0)]) (wrap64 (x6 - (mn x6 ((rd_T51 x21 x23).f0)))) x21 x22 (wrap64 (x23 + 1)) x246000 x246001 x246002) else (none))) else (none)) else (none)) else (some x5)
def impl_splitStay.f (k : Nat) (a0_0 : Int) (l0_1 : List (S51)) (a0_2 : Int) (a1 : Int) : Option (List Int):=(some (([mn a1 a0_0] : List Int) : List Int)).bind fun y246 => (if 0 < (y246.length : Int) then (impl_splitStay.l0 k y246 (wrap64 (a1 - (rd y246 0))) l0_1 (l0_1.length : Int) 0 a0_0 l0_1 a0_2) else (none))
theorem impl_splitStay.mono_l : ∀ k,(∀ y0 y1 y2 y3 y4 y5 y6 y7,LeO (impl_splitStay.l0 k y0 y1 y2 y3 y4 y5 y6 y7) (impl_splitStay.l0 (k + 1) y0 y1 y2 y3 y4 y5 y6 y7))
 | 0 => fun _ _ _ _ _ _ _ _ r h => by simp [impl_splitStay.l0] at h
 | k + 1 => by
  have ih0:=impl_splitStay.mono_l k
  ·intro y0 y1 y2 y3 y4 y5 y6 y7
   unfold impl_splitStay.l0
   repeat' first
   | (with_reducible exact ih0 _ _ _ _ _ _ _ _)
   | (with_reducible exact LeO.refl _)
   | (with_reducible exact LeO.none _)
   | (with_reducible refine LeO.ite ?_ ?_)
   | (with_reducible refine LeO.bind ?_ (fun _ => ?_))
   | exact ih0 _ _ _ _ _ _ _ _
   | exact LeO.none _
   | refine LeO.ite ?_ ?_
   | refine LeO.bind ?_ (fun _ => ?_)
theorem impl_splitStay.mono : ∀ a0 a1 a2 a3 k,LeO (impl_splitStay.f k a0 a1 a2 a3) (impl_splitStay.f (k + 1) a0 a1 a2 a3):=by
 intro a0 a1 a2 a3 k
 have ih0:=impl_splitStay.mono_l k
 unfold impl_splitStay.f
 repeat' first
   | (with_reducible exact ih0 _ _ _ _ _ _ _ _)
   | (with_reducible exact LeO.refl _)
   | (with_reducible exact LeO.none _)
   | (with_reducible refine LeO.ite ?_ ?_)
   | (with_reducible refine LeO.bind ?_ (fun _ => ?_))
   | exact ih0 _ _ _ _ _ _ _ _
   | exact LeO.none _
   | refine LeO.ite ?_ ?_
   | refine LeO.bind ?_ (fun _ => ?_)
set_option maxHeartbeats 8000000 in
set_option maxRecDepth 100000 in
theorem impl_splitStay.calls (k : Nat) (a0_0 : Int) (A0_1 : Option Addr) (c0_1 : Nat) (l0_1 : List (S51)) (a0_2 : Int) (a1 : Int) (r : List Int) (w : World) (hr0_1 : Kd.C k51 w A0_1 l0_1.length l0_1) (hc0_1 : l0_1.length ≤ c0_1) (h : impl_splitStay.f k a0_0 l0_1 a0_2 a1 = some r) :
  Calls Try.prog 52 #[.agg #[.int .i64 a0_0, .slice A0_1 l0_1.length c0_1, .int .i64 a0_2], .int .i64 a1] w fun e w' => ∃ v0_ : Value,e = .returned (v0_) ∧ Kd.R (Kd.int .i64) 3 w' w.heap.size (fun _ => True) v0_ r ∧ Below w.heap.size w w':=by
 have hu38:=Try.underlying38
 have hu51:=Try.underlying51
 have HR0_1:=Aside0.mk hr0_1
 have HC0_1:=Aside0.mk hc0_1
 clear hr0_1 hc0_1
 have HB:=Aside0.mk (Below.refl w.heap.size w)
 have H : ((some (([mn a1 a0_0] : List Int) : List Int)).bind fun y246 => (if 0 < (y246.length : Int) then (impl_splitStay.l0 k y246 (wrap64 (a1 - (rd y246 0))) l0_1 (l0_1.length : Int) 0 a0_0 l0_1 a0_2) else (none))) = some r:=h
 clear h
 obtain ⟨ji3,hji3⟩ : ∃ j_ : Int,(mn a1 a0_0) = j_:=⟨_,rfl⟩
 replace H : ((some (([ji3] : List Int) : List Int)).bind fun y246 => (if 0 < (y246.length : Int) then (impl_splitStay.l0 k y246 (wrap64 (a1 - (rd y246 0))) l0_1 (l0_1.length : Int) 0 a0_0 l0_1 a0_2) else (none))) = some r:=by (rw [hji3] at H;exact H)
 have hji3_ : (if a0_0 < a1 then a0_0 else a1) = ji3:=hji3
 obtain ⟨y246,hy246⟩ : ∃ y_ : List Int,y_ = (([ji3] : List Int)):=⟨_,rfl⟩
 replace H : (if 0 < (y246.length : Int) then (impl_splitStay.l0 k y246 (wrap64 (a1 - (rd y246 0))) l0_1 (l0_1.length : Int) 0 a0_0 l0_1 a0_2) else (none)) = some r:=by (have H2_:=(Option.bind_some _ _).symm.trans H;rw [hy246];with_reducible exact H2_)
 have Ny246:=Aside0.mk hy246
 clear hy246
 by_cases c4 : 0 < (y246.length : Int)
 ·rw [if_pos c4] at H
  have c4b0 : decide (0 < (y246.length : Int)) = true:=decide_eq_true c4
  have c4b1 : decide (0 < y246.length) = true:=decide_eq_true (by omega)
  clear c4
  have H':=Aside0.mk H
  clear H
  go_enter Try.func52,Try.ntmps52
  go_wp2_with (first | ((with_reducible refine gate_dst (N:=2) rfl ?_);refine box_event ?hg (N:=2) ?hd (cs:=#[.int .i64 a0_0, .slice A0_1 l0_1.length c0_1, .int .i64 a0_2]) (t:=38) ?hr ?_;(case hd => rfl);(case hg => rfl);(case hr => (go_simp;done));intro gb245 hg w5 hbox hb;have n0_:=Aside0.mk (below_step (by exact HB.out) hb);have n1_:=Aside0.mk (hbox);have n2_:=Aside0.mk ((by rw [hg];exact (below_size (by exact HB.out)) : w.heap.size ≤ gb245));have n3_:=Aside0.mk ((by rw [hg];exact (below_size (by exact HB.out)) : w.heap.size ≤ gb245));clear HB;have HB:=n0_;have BK245:=n1_;have GW245:=n2_;have GE245:=n3_;clear n0_ n1_ n2_ n3_;clear hb hbox hg;have hcz6_0 : w5.cell? ⟨gb245,0,none⟩ = some (.int .i64 a0_0):=(blk_cell BK245.out 0).trans rfl;have hcz6_1 : w5.cell? ⟨gb245,1,none⟩ = some (.slice A0_1 l0_1.length c0_1):=(blk_cell BK245.out 1).trans rfl;have hcz6_2 : w5.cell? ⟨gb245,2,none⟩ = some (.int .i64 a0_2):=(blk_cell BK245.out 2).trans rfl;have hfz6_0:=blk_frozen BK245.out 0;have hfz6_1:=blk_frozen BK245.out 1;have hfz6_2:=blk_frozen BK245.out 2) | ((with_reducible refine gate_dst (N:=14) rfl ?_);refine Kd.R_lit (Kd.int .i64) _ 3 ?hg (N:=14) ?hd (xs:=([ji3] : List Int)) (inner := [.int .i64 ji3]) (ok:=fun _ => True) (okp:=fun _ => True) ?hr ?hp (fun _ hk => hk) trivial (Below.refl _ _) (Nat.le_refl _) (by simp) ?_;(case hd => rfl);(case hg => rfl);(case hr => (go_simp;done));(case hp => exact (Reps.one (show Kd.M (Kd.int .i64) _ _ _ ji3 [.int .i64 ji3] from rfl) (Reps.none _ _)));intro v247 w7 ho8 hb hg_ hnew_;clear hg_ hnew_;(rw [← Ny246.out] at ho8);have n0_:=Aside0.mk (Kd.R_lower ho8 (below_size (by exact HB.out)));have n1_:=Aside0.mk (blk_below (g:=gb245) (o := .cells #[.int .i64 a0_0, .slice A0_1 l0_1.length c0_1, .int .i64 a0_2] 38 (0,0)) (by exact BK245.out) hb);have n2_:=Aside0.mk (below_step (by exact HB.out) hb);clear BK245;clear HB;have HO248:=n0_;have BK245:=n1_;have HB:=n2_;clear n0_ n1_ n2_;clear hb ho8;obtain ⟨Ao9,co9,eo9⟩ := Kd.R_slice HO248.out;subst eo9;have p249 : 0 ≤ (0 : Int):=(by omega);have q249 : 0 < (y246.length : Int):=of_decide_eq_true (by (with_reducible assumption));obtain ⟨ad249,e249,hx249_0⟩ := Kd.at_int (Kd.R_reads' HO248.out).2.2 0 p249 q249;cases e249;have qi249 : (0 < y246.length) = True:=eq_true (by omega);(try rw [show ((0 : Int)).toNat = 0 from rfl] at hx249_0);(try rw [Addr.add_zero'] at hx249_0);replace p249:=eq_true p249;replace q249:=eq_true q249;have hcz10_0 : w7.cell? ⟨gb245,0,none⟩ = some (.int .i64 a0_0):=(blk_cell BK245.out 0).trans rfl;have hcz10_1 : w7.cell? ⟨gb245,1,none⟩ = some (.slice A0_1 l0_1.length c0_1):=(blk_cell BK245.out 1).trans rfl;have hcz10_2 : w7.cell? ⟨gb245,2,none⟩ = some (.int .i64 a0_2):=(blk_cell BK245.out 2).trans rfl;have hfz10_0:=blk_frozen BK245.out 0;have hfz10_1:=blk_frozen BK245.out 1;have hfz10_2:=blk_frozen BK245.out 2))
  (skip)
  go_loopg [5,6,23] k (fun kq v5 v6 v23 w' => ∃ (x5_1 : List Int) (x6_1 : Int) (x23_1 : Int),v6 = .int .i64 x6_1 ∧ v23 = .int .i64 x23_1 ∧ Aside0 (impl_splitStay.l0 kq x5_1 x6_1 l0_1 (l0_1.length : Int) x23_1 a0_0 l0_1 a0_2 = some r) ∧ Aside0 (kq ≤ k) ∧ Aside0 (Kd.R (Kd.int .i64) 3 w' w.heap.size (fun _ => True) v5 x5_1) ∧ Aside0 (w'.heap[gb245]? = some (.cells #[.int .i64 a0_0,(.slice A0_1 l0_1.length c0_1), .int .i64 a0_2] 38 (0,0))) ∧ Aside0 (Below w.heap.size w w'))
  case atStart => exact ⟨(y246),(wrap64 (a1 - (rd y246 0))),(0),(by rfl),(by rfl),H',⟨Nat.le_refl _⟩,⟨by exact HO248.out⟩,⟨by exact BK245.out⟩,⟨by exact HB.out⟩⟩
  case round =>
   clear H'
   try clear p2
   try clear q2
   try clear hx2
   try clear qi2
   try clear c4
   try clear c4b0
   try clear c4b1
   try clear c5
   try clear p6
   try clear hcz10_0
   try clear hcz10_1
   try clear hcz10_2
   try clear hcz6_0
   try clear hcz6_1
   try clear hcz6_2
   try clear hfz10_0
   try clear hfz10_1
   try clear hfz10_2
   try clear hfz6_0
   try clear hfz6_1
   try clear hfz6_2
   try clear hx249_0
   try clear p249
   try clear q249
   obtain ⟨x5_1,x6_1,x23_1,rfl,rfl,HA,HK1,HO_5,BK245,HB⟩ := hrel
   cases gk with
   | zero => exact absurd HA.out (by simp [impl_splitStay.l0])
   | succ k1 =>
    have H:=HA.out
    clear HA
    simp only [impl_splitStay.l0] at H
    by_cases c11 : x23_1 < (l0_1.length : Int)
    ·rw [if_pos c11] at H
     have c11b0 : decide (x23_1 < (l0_1.length : Int)) = true:=decide_eq_true c11
     clear c11
     by_cases c12 : 0 ≤ x23_1
     ·rw [if_pos c12] at H
      have c12b0 : decide (0 ≤ x23_1) = true:=decide_eq_true c12
      clear c12
      by_cases c13 : x23_1 < (l0_1.length : Int)
      ·rw [if_pos c13] at H
       have c13b0 : decide (x23_1 < (l0_1.length : Int)) = true:=decide_eq_true c13
       clear c13
       obtain ⟨ji14,hji14⟩ : ∃ j_ : Int,(mn x6_1 ((rd_T51 l0_1 x23_1).f0)) = j_:=⟨_,rfl⟩
       replace H : (if x23_1 = (wrap64 ((l0_1.length : Int) - 1)) then (if x5_1.length < 17592186044416 then (impl_splitStay.l0 k1 (x5_1 ++ [x6_1]) (wrap64 (x6_1 - x6_1)) l0_1 (l0_1.length : Int) (wrap64 (x23_1 + 1)) a0_0 l0_1 a0_2) else (none)) else (if x5_1.length < 17592186044416 then (impl_splitStay.l0 k1 (x5_1 ++ [ji14]) (wrap64 (x6_1 - (ji14))) l0_1 (l0_1.length : Int) (wrap64 (x23_1 + 1)) a0_0 l0_1 a0_2) else (none))) = some r:=by (rw [hji14] at H;exact H)
       have hji14_ : (if ((rd_T51 l0_1 x23_1).f0) < x6_1 then ((rd_T51 l0_1 x23_1).f0) else x6_1) = ji14:=hji14
       by_cases c15 : x23_1 = (wrap64 ((l0_1.length : Int) - 1))
       ·rw [if_pos c15] at H
        have c15b0 : (x23_1 == (wrap64 ((l0_1.length : Int) - 1))) = true:=beq_iff_eq.mpr c15
        have c15b1 : (x23_1 != (wrap64 ((l0_1.length : Int) - 1))) = false:=bne_eq_false_iff_eq.mpr c15
        clear c15
        by_cases c16 : x5_1.length < 17592186044416
        ·rw [if_pos c16] at H
         have LMc16:=Aside0.mk c16
         clear c16
         obtain ⟨y252,hy252⟩ : ∃ y_ : List Int,y_ = (x5_1 ++ [x6_1]):=⟨_,rfl⟩
         replace H : (impl_splitStay.l0 k1 y252 (wrap64 (x6_1 - x6_1)) l0_1 (l0_1.length : Int) (wrap64 (x23_1 + 1)) a0_0 l0_1 a0_2) = some r:=by (rw [hy252];with_reducible exact H)
         have Ny252:=Aside0.mk hy252
         clear hy252
         have H':=Aside0.mk H
         clear H
         have p250 : 0 ≤ (x23_1 : Int):=of_decide_eq_true (by (with_reducible assumption))
         have q250 : x23_1 < (l0_1.length : Int):=of_decide_eq_true (by (with_reducible assumption))
         obtain ⟨ad250,e250,hx250_0,hx250_1⟩ := at_T51 HR0_1.out x23_1 p250 q250
         cases e250
         replace hx250_0:=(HB.out.cell (World.block_lt_of_cell? w _ hx250_0)).trans hx250_0
         replace hx250_1:=(HB.out.cell (World.block_lt_of_cell? w _ hx250_1)).trans hx250_1
         replace p250:=eq_true p250
         replace q250:=eq_true q250
         go_wp2_with (first | ((with_reducible refine gate_dst (N:=8) rfl ?_);refine box_event ?hg (N:=8) ?hd (cs:=#[.int .i64 0, .int .i64 0]) (t:=51) ?hr ?_;(case hd => rfl);(case hg => rfl);(case hr => (go_simp;done));intro gb251 hg w17 hbox hb;have n0_:=Aside0.mk (Kd.R_below (by exact HO_5.out) hb);have n1_:=Aside0.mk (blk_below (g:=gb245) (o := .cells #[.int .i64 a0_0, .slice (some ad250) l0_1.length c0_1, .int .i64 a0_2] 38 (0,0)) (by exact BK245.out) hb);have n2_:=Aside0.mk (below_step (by exact HB.out) hb);have n3_:=Aside0.mk (hbox);have n4_:=Aside0.mk ((by rw [hg];exact (below_size (by exact HB.out)) : w.heap.size ≤ gb251));have n5_:=Aside0.mk ((by rw [hg];exact (below_size (by exact HB.out)) : w.heap.size ≤ gb251));have n6_:=Aside0.mk ((by rw [hg];exact Nat.ne_of_lt (blk_lt (g:=gb245) (o := .cells #[.int .i64 a0_0, .slice (some ad250) l0_1.length c0_1, .int .i64 a0_2] 38 (0,0)) (by exact BK245.out)) : gb245 ≠ gb251));have n7_:=Aside0.mk ((by rw [hg];exact Nat.ne_of_gt (blk_lt (g:=gb245) (o := .cells #[.int .i64 a0_0, .slice (some ad250) l0_1.length c0_1, .int .i64 a0_2] 38 (0,0)) (by exact BK245.out)) : gb251 ≠ gb245));clear HO_5;clear BK245;clear HB;have HO_5:=n0_;have BK245:=n1_;have HB:=n2_;have BK251:=n3_;have GW251:=n4_;have GE251:=n5_;have NB245_251:=n6_;have NB251_245:=n7_;clear n0_ n1_ n2_ n3_ n4_ n5_ n6_ n7_;clear hb hbox hg;have hnb18:=NB251_245.out;have hnc18:=NB245_251.out;have hcz19_0 : w17.cell? ⟨gb251,0,none⟩ = some (.int .i64 0):=(blk_cell BK251.out 0).trans rfl;have hcz19_1 : w17.cell? ⟨gb251,1,none⟩ = some (.int .i64 0):=(blk_cell BK251.out 1).trans rfl;have hfz19_0:=blk_frozen BK251.out 0;have hfz19_1:=blk_frozen BK251.out 1;have hcz20_0 : w17.cell? ⟨gb245,0,none⟩ = some (.int .i64 a0_0):=(blk_cell BK245.out 0).trans rfl;have hcz20_1 : w17.cell? ⟨gb245,1,none⟩ = some (.slice (some ad250) l0_1.length c0_1):=(blk_cell BK245.out 1).trans rfl;have hcz20_2 : w17.cell? ⟨gb245,2,none⟩ = some (.int .i64 a0_2):=(blk_cell BK245.out 2).trans rfl;have hfz20_0:=blk_frozen BK245.out 0;have hfz20_1:=blk_frozen BK245.out 1;have hfz20_2:=blk_frozen BK245.out 2) | ((with_reducible refine gate_builtin (b := .append) (xs:=#[.tmp 39, .tmp 41]) rfl ?_);at_builtin;refine Kd.R_append (Kd.int .i64) (w0:=w) w.heap.size rfl (.tmp 39) (.tmp 41) 43 3 (.int .i64 0) 8 rfl Try.underlying43 info3 rfl (by decide) (by omega) u5 x5_1 x6_1 [.int .i64 x6_1] (fun _ => True) (fun _ => False) rfl (by (go_simp;done)) ?aP (fun _ hk => hk.elim) ?aF ?aO ?aB ?aS ?aL ?_;(case aP => exact rfl);(case aB => exact (by repeat ((with_reducible first | exact HB.out | refine below_set ?_ GE251.out))));(case aF => exact (fun _ _ => trivial));(case aO => exact (by exact Kd.R_mono (Kd.R_far (p:=⟨gb251,1,none⟩) (Kd.R_far (p:=⟨gb251,0,none⟩) (Kd.R_types HO_5.out BK251.out (by decide)) (fun _ hk => hk.2) (.int .i64 ((rd_T51 l0_1 x23_1).f0))) (fun _ hk => hk.2) (.int .i64 ((rd_T51 l0_1 x23_1).f1))) (fun _ hk => trivial)));(case aS => exact (below_size (by repeat ((with_reducible first | exact HB.out | refine below_set ?_ GE251.out)))));(case aL => have:=LMc16.out;omega);intro v253 w21 ho hb hg hat;rw [← Ny252.out] at ho;have n0_:=Aside0.mk (blk_grown (g:=gb245) (o := .cells #[.int .i64 a0_0, .slice (some ad250) l0_1.length c0_1, .int .i64 a0_2] 38 (0,0)) (by refine blk_far ?_ NB245_251.out _;refine blk_far ?_ NB245_251.out _;exact BK245.out) hg (Kd.R_ne HO_5.out BK245.out (by decide)));have n1_:=Aside0.mk (blk_grown (g:=gb251) (o := .cells #[.int .i64 ((rd_T51 l0_1 x23_1).f0), .int .i64 ((rd_T51 l0_1 x23_1).f1)] 51 (0,0)) (by refine blk_put (cs:=#[.int .i64 ((rd_T51 l0_1 x23_1).f0), .int .i64 0]) ?_ 1 _ rfl;refine blk_put (cs:=#[.int .i64 0, .int .i64 0]) ?_ 0 _ rfl;exact BK251.out) hg (Kd.R_ne HO_5.out BK251.out (by decide)));have n2_:=Aside0.mk (hb);have n3_:=Aside0.mk (ho);clear BK245;clear BK251;clear HB;clear HO_5;have BK245:=n0_;have BK251:=n1_;have HB:=n2_;have HO254:=n3_;clear n0_ n1_ n2_ n3_;clear ho hb hg hat))
         go_roundg k1
         case measure => have:=HK1.out;omega
         case rel => exact ⟨(y252),(wrap64 (x6_1 - x6_1)),(wrap64 (x23_1 + 1)),(by (simp;exact (show (0 : Int) = wrap64 0 by unfold wrap64;omega))),(by rfl),H',⟨by have:=HK1.out;omega⟩,⟨by exact HO254.out⟩,⟨by exact BK245.out⟩,⟨by exact HB.out⟩⟩
        ·rw [if_neg c16] at H
         exact absurd H (by simp)
       ·rw [if_neg c15] at H
        have c15b0 : (x23_1 == (wrap64 ((l0_1.length : Int) - 1))) = false:=beq_eq_false_iff_ne.mpr c15
        have c15b1 : (x23_1 != (wrap64 ((l0_1.length : Int) - 1))) = true:=bne_iff_ne.mpr c15
        by_cases c22 : x5_1.length < 17592186044416
        ·rw [if_pos c22] at H
         have LMc22:=Aside0.mk c22
         clear c22
         obtain ⟨y255,hy255⟩ : ∃ y_ : List Int,y_ = (x5_1 ++ [ji14]):=⟨_,rfl⟩
         replace H : (impl_splitStay.l0 k1 y255 (wrap64 (x6_1 - (ji14))) l0_1 (l0_1.length : Int) (wrap64 (x23_1 + 1)) a0_0 l0_1 a0_2) = some r:=by (rw [hy255];with_reducible exact H)
         have Ny255:=Aside0.mk hy255
         clear hy255
         have H':=Aside0.mk H
         clear H
         have p250 : 0 ≤ (x23_1 : Int):=of_decide_eq_true (by (with_reducible assumption))
         have q250 : x23_1 < (l0_1.length : Int):=of_decide_eq_true (by (with_reducible assumption))
         obtain ⟨ad250,e250,hx250_0,hx250_1⟩ := at_T51 HR0_1.out x23_1 p250 q250
         cases e250
         replace hx250_0:=(HB.out.cell (World.block_lt_of_cell? w _ hx250_0)).trans hx250_0
         replace hx250_1:=(HB.out.cell (World.block_lt_of_cell? w _ hx250_1)).trans hx250_1
         replace p250:=eq_true p250
         replace q250:=eq_true q250
         go_wp2_with (first | ((with_reducible refine gate_dst (N:=8) rfl ?_);refine box_event ?hg (N:=8) ?hd (cs:=#[.int .i64 0, .int .i64 0]) (t:=51) ?hr ?_;(case hd => rfl);(case hg => rfl);(case hr => (go_simp;done));intro gb251 hg w23 hbox hb;have n0_:=Aside0.mk (Kd.R_below (by exact HO_5.out) hb);have n1_:=Aside0.mk (blk_below (g:=gb245) (o := .cells #[.int .i64 a0_0, .slice (some ad250) l0_1.length c0_1, .int .i64 a0_2] 38 (0,0)) (by exact BK245.out) hb);have n2_:=Aside0.mk (below_step (by exact HB.out) hb);have n3_:=Aside0.mk (hbox);have n4_:=Aside0.mk ((by rw [hg];exact (below_size (by exact HB.out)) : w.heap.size ≤ gb251));have n5_:=Aside0.mk ((by rw [hg];exact (below_size (by exact HB.out)) : w.heap.size ≤ gb251));have n6_:=Aside0.mk ((by rw [hg];exact Nat.ne_of_lt (blk_lt (g:=gb245) (o := .cells #[.int .i64 a0_0, .slice (some ad250) l0_1.length c0_1, .int .i64 a0_2] 38 (0,0)) (by exact BK245.out)) : gb245 ≠ gb251));have n7_:=Aside0.mk ((by rw [hg];exact Nat.ne_of_gt (blk_lt (g:=gb245) (o := .cells #[.int .i64 a0_0, .slice (some ad250) l0_1.length c0_1, .int .i64 a0_2] 38 (0,0)) (by exact BK245.out)) : gb251 ≠ gb245));clear HO_5;clear BK245;clear HB;have HO_5:=n0_;have BK245:=n1_;have HB:=n2_;have BK251:=n3_;have GW251:=n4_;have GE251:=n5_;have NB245_251:=n6_;have NB251_245:=n7_;clear n0_ n1_ n2_ n3_ n4_ n5_ n6_ n7_;clear hb hbox hg;have hnb24:=NB251_245.out;have hnc24:=NB245_251.out;have hcz25_0 : w23.cell? ⟨gb251,0,none⟩ = some (.int .i64 0):=(blk_cell BK251.out 0).trans rfl;have hcz25_1 : w23.cell? ⟨gb251,1,none⟩ = some (.int .i64 0):=(blk_cell BK251.out 1).trans rfl;have hfz25_0:=blk_frozen BK251.out 0;have hfz25_1:=blk_frozen BK251.out 1;have hcz26_0 : w23.cell? ⟨gb245,0,none⟩ = some (.int .i64 a0_0):=(blk_cell BK245.out 0).trans rfl;have hcz26_1 : w23.cell? ⟨gb245,1,none⟩ = some (.slice (some ad250) l0_1.length c0_1):=(blk_cell BK245.out 1).trans rfl;have hcz26_2 : w23.cell? ⟨gb245,2,none⟩ = some (.int .i64 a0_2):=(blk_cell BK245.out 2).trans rfl;have hfz26_0:=blk_frozen BK245.out 0;have hfz26_1:=blk_frozen BK245.out 1;have hfz26_2:=blk_frozen BK245.out 2) | ((with_reducible refine gate_builtin (b := .append) (xs:=#[.tmp 39, .tmp 41]) rfl ?_);at_builtin;refine Kd.R_append (Kd.int .i64) (w0:=w) w.heap.size rfl (.tmp 39) (.tmp 41) 43 3 (.int .i64 0) 8 rfl Try.underlying43 info3 rfl (by decide) (by omega) u5 x5_1 ji14 [.int .i64 ji14] (fun _ => True) (fun _ => False) rfl (by (go_simp;done)) ?aP (fun _ hk => hk.elim) ?aF ?aO ?aB ?aS ?aL ?_;(case aP => exact rfl);(case aB => exact (by repeat ((with_reducible first | exact HB.out | refine below_set ?_ GE251.out))));(case aF => exact (fun _ _ => trivial));(case aO => exact (by exact Kd.R_mono (Kd.R_far (p:=⟨gb251,1,none⟩) (Kd.R_far (p:=⟨gb251,0,none⟩) (Kd.R_types HO_5.out BK251.out (by decide)) (fun _ hk => hk.2) (.int .i64 ((rd_T51 l0_1 x23_1).f0))) (fun _ hk => hk.2) (.int .i64 ((rd_T51 l0_1 x23_1).f1))) (fun _ hk => trivial)));(case aS => exact (below_size (by repeat ((with_reducible first | exact HB.out | refine below_set ?_ GE251.out)))));(case aL => have:=LMc22.out;omega);intro v256 w27 ho hb hg hat;rw [← Ny255.out] at ho;have n0_:=Aside0.mk (blk_grown (g:=gb245) (o := .cells #[.int .i64 a0_0, .slice (some ad250) l0_1.length c0_1, .int .i64 a0_2] 38 (0,0)) (by refine blk_far ?_ NB245_251.out _;refine blk_far ?_ NB245_251.out _;exact BK245.out) hg (Kd.R_ne HO_5.out BK245.out (by decide)));have n1_:=Aside0.mk (blk_grown (g:=gb251) (o := .cells #[.int .i64 ((rd_T51 l0_1 x23_1).f0), .int .i64 ((rd_T51 l0_1 x23_1).f1)] 51 (0,0)) (by refine blk_put (cs:=#[.int .i64 ((rd_T51 l0_1 x23_1).f0), .int .i64 0]) ?_ 1 _ rfl;refine blk_put (cs:=#[.int .i64 0, .int .i64 0]) ?_ 0 _ rfl;exact BK251.out) hg (Kd.R_ne HO_5.out BK251.out (by decide)));have n2_:=Aside0.mk (hb);have n3_:=Aside0.mk (ho);clear BK245;clear BK251;clear HB;clear HO_5;have BK245:=n0_;have BK251:=n1_;have HB:=n2_;have HO257:=n3_;clear n0_ n1_ n2_ n3_;clear ho hb hg hat))
         go_roundg k1
         case measure => have:=HK1.out;omega
         case rel => exact ⟨(y255),(wrap64 (x6_1 - (ji14))),(wrap64 (x23_1 + 1)),(by rfl),(by rfl),H',⟨by have:=HK1.out;omega⟩,⟨by exact HO257.out⟩,⟨by exact BK245.out⟩,⟨by exact HB.out⟩⟩
        ·rw [if_neg c22] at H
         exact absurd H (by simp)
      ·rw [if_neg c13] at H
       exact absurd H (by simp)
     ·rw [if_neg c12] at H
      exact absurd H (by simp)
    ·rw [if_neg c11] at H
     have c11b0 : decide (x23_1 < (l0_1.length : Int)) = false:=decide_eq_false c11
     clear c11
     obtain rfl:=Option.some.inj H
     go_wp2
     go_ret
     exact ⟨_,by rfl,by exact HO_5.out,by exact HB.out⟩
 ·rw [if_neg c4] at H
  exact absurd H (by simp)

/-! ### impl_ceiling: function 60 -/
def impl_ceiling.f (a0 : Int) (a1 : Int) : Option (Int):=if a1 = 0 then (none) else (some (wrap64 (Int.tdiv (wrap64 ((wrap64 (a0 + a1)) - 1)) a1)))
set_option maxHeartbeats 8000000 in
set_option maxRecDepth 100000 in
theorem impl_ceiling.calls (a0 : Int) (a1 : Int) (r : Int) (w : World) (h : impl_ceiling.f a0 a1 = some r) :
  Calls Try.prog 60 #[.int .i64 a0, .int .i64 a1] w fun e w' => e = .returned (.int .i64 r) ∧ Drawn0 w w':=by
 have H : (if a1 = 0 then (none) else (some (wrap64 (Int.tdiv (wrap64 ((wrap64 (a0 + a1)) - 1)) a1)))) = some r:=h
 clear h
 by_cases c3 : a1 = 0
 ·rw [if_pos c3] at H
  exact absurd H (by simp)
 ·rw [if_neg c3] at H
  have c3b0 : (a1 == 0) = false:=beq_eq_false_iff_ne.mpr c3
  have c3b1 : (a1 != 0) = true:=bne_iff_ne.mpr c3
  obtain rfl:=Option.some.inj H
  go_enter Try.func60,Try.ntmps60
  go_wp2
  go_ret
  exact ⟨by rfl,by repeat (exact Drawn0.refl _)⟩

/-! ### impl_stayCharge: function 47 -/
def impl_stayCharge.l0 : Nat → Int → Int → List Int → Int → Int → Int → List (S51) → Int → Option (Int)
 | 0,_,_,_,_,_,_,_,_ => none
 | k + 1,x1,x7,x13,x14,x15,x259000,x259001,x259002 => if x15 < x14 then (if 0 ≤ x15 then (if x15 < (x13.length : Int) then (if x15 < (x259001.length : Int) then (impl_stayCharge.l0 k x1 (wrap64 (x7 + (wrap64 ((rd x13 x15) * ((rd_T51 x259001 x15).f1))))) x13 x14 (wrap64 (x15 + 1)) x259000 x259001 x259002) else (none)) else (none)) else (none)) else (if x1 = 2 then ((impl_ceiling.f (wrap64 (x7 * x259002)) 100).bind fun t268 => (some t268)) else (some x7))
def impl_stayCharge.f (k : Nat) (a0_0 : Int) (l0_1 : List (S51)) (a0_2 : Int) (a1 : Int) (a2 : Int) : Option (Int):=(impl_splitStay.f k a0_0 l0_1 a0_2 a2).bind fun t259 => (if 1 ≤ (t259.length : Int) then ((some (t259.drop 1 : List Int)).bind fun y262 => (impl_stayCharge.l0 k a1 0 y262 (y262.length : Int) 0 a0_0 l0_1 a0_2)) else (none))
theorem impl_stayCharge.mono_l : ∀ k,(∀ y0 y1 y2 y3 y4 y5 y6 y7,LeO (impl_stayCharge.l0 k y0 y1 y2 y3 y4 y5 y6 y7) (impl_stayCharge.l0 (k + 1) y0 y1 y2 y3 y4 y5 y6 y7))
 | 0 => fun _ _ _ _ _ _ _ _ r h => by simp [impl_stayCharge.l0] at h
 | k + 1 => by
  have ih0:=impl_stayCharge.mono_l k
  ·intro y0 y1 y2 y3 y4 y5 y6 y7
   unfold impl_stayCharge.l0
   repeat' first
   | (with_reducible exact ih0 _ _ _ _ _ _ _ _)
   | (with_reducible exact impl_splitStay.mono _ _ _ _ _)
   | (with_reducible exact LeO.refl _)
   | (with_reducible exact LeO.none _)
   | (with_reducible refine LeO.ite ?_ ?_)
   | (with_reducible refine LeO.bind ?_ (fun _ => ?_))
   | exact ih0 _ _ _ _ _ _ _ _
   | exact impl_splitStay.mono _ _ _ _ _
   | exact LeO.none _
   | refine LeO.ite ?_ ?_
   | refine LeO.bind ?_ (fun _ => ?_)
theorem impl_stayCharge.mono : ∀ a0 a1 a2 a3 a4 k,LeO (impl_stayCharge.f k a0 a1 a2 a3 a4) (impl_stayCharge.f (k + 1) a0 a1 a2 a3 a4):=by
 intro a0 a1 a2 a3 a4 k
 have ih0:=impl_stayCharge.mono_l k
 unfold impl_stayCharge.f
 repeat' first
   | (with_reducible exact ih0 _ _ _ _ _ _ _ _)
   | (with_reducible exact impl_splitStay.mono _ _ _ _ _)
   | (with_reducible exact LeO.refl _)
   | (with_reducible exact LeO.none _)
   | (with_reducible refine LeO.ite ?_ ?_)
   | (with_reducible refine LeO.bind ?_ (fun _ => ?_))
   | exact ih0 _ _ _ _ _ _ _ _
   | exact impl_splitStay.mono _ _ _ _ _
   | exact LeO.none _
   | refine LeO.ite ?_ ?_
   | refine LeO.bind ?_ (fun _ => ?_)
set_option maxHeartbeats 8000000 in
set_option maxRecDepth 100000 in
theorem impl_stayCharge.calls (k : Nat) (a0_0 : Int) (A0_1 : Option Addr) (c0_1 : Nat) (l0_1 : List (S51)) (a0_2 : Int) (a1 : Int) (a2 : Int) (r : Int) (w : World) (hr0_1 : Kd.C k51 w A0_1 l0_1.length l0_1) (hc0_1 : l0_1.length ≤ c0_1) (h : impl_stayCharge.f k a0_0 l0_1 a0_2 a1 a2 = some r) :
  Calls Try.prog 47 #[.agg #[.int .i64 a0_0, .slice A0_1 l0_1.length c0_1, .int .i64 a0_2], .int .i64 a1, .int .i64 a2] w fun e w' => e = .returned (.int .i64 r) ∧ Below w.heap.size w w':=by
 have hu38:=Try.underlying38
 have HR0_1:=Aside0.mk hr0_1
 have HC0_1:=Aside0.mk hc0_1
 clear hr0_1 hc0_1
 have HB:=Aside0.mk (Below.refl w.heap.size w)
 have H : ((impl_splitStay.f k a0_0 l0_1 a0_2 a2).bind fun t259 => (if 1 ≤ (t259.length : Int) then ((some (t259.drop 1 : List Int)).bind fun y262 => (impl_stayCharge.l0 k a1 0 y262 (y262.length : Int) 0 a0_0 l0_1 a0_2)) else (none))) = some r:=h
 clear h
 replace H:=Option.bind_eq_some_iff.mp H
 obtain ⟨t259,A40,H⟩ := H
 replace H : (if 1 ≤ (t259.length : Int) then ((some (t259.drop 1 : List Int)).bind fun y262 => (impl_stayCharge.l0 k a1 0 y262 (y262.length : Int) 0 a0_0 l0_1 a0_2)) else (none)) = some r:=H
 have A4:=Aside0.mk A40
 clear A40
 by_cases c5 : 1 ≤ (t259.length : Int)
 ·rw [if_pos c5] at H
  have c5b0:=eq_true c5
  have c5b1 : decide (1 ≤ (t259.length : Int)) = true:=decide_eq_true c5
  clear c5
  obtain ⟨y262,hy262⟩ : ∃ y_ : List Int,y_ = (t259.drop 1):=⟨_,rfl⟩
  replace H : (impl_stayCharge.l0 k a1 0 y262 (y262.length : Int) 0 a0_0 l0_1 a0_2) = some r:=by (have H2_:=(Option.bind_some _ _).symm.trans H;rw [hy262];with_reducible exact H2_)
  have Ny262:=Aside0.mk hy262
  clear hy262
  have H':=Aside0.mk H
  clear H
  go_enter Try.func47,Try.ntmps47
  go_wp2_with (first | ((with_reducible refine gate_dst (N:=3) rfl ?_);refine box_event ?hg (N:=3) ?hd (cs:=#[.int .i64 a0_0, .slice A0_1 l0_1.length c0_1, .int .i64 a0_2]) (t:=38) ?hr ?_;(case hd => rfl);(case hg => rfl);(case hr => (go_simp;done));intro gb258 hg w6 hbox hb;have n0_:=Aside0.mk (below_step (by exact HB.out) hb);have n1_:=Aside0.mk (hbox);have n2_:=Aside0.mk ((by rw [hg];exact (below_size (by exact HB.out)) : w.heap.size ≤ gb258));have n3_:=Aside0.mk ((by rw [hg];exact (below_size (by exact HB.out)) : w.heap.size ≤ gb258));clear HB;have HB:=n0_;have BK258:=n1_;have GW258:=n2_;have GE258:=n3_;clear n0_ n1_ n2_ n3_;clear hb hbox hg;have hcz7_0 : w6.cell? ⟨gb258,0,none⟩ = some (.int .i64 a0_0):=(blk_cell BK258.out 0).trans rfl;have hcz7_1 : w6.cell? ⟨gb258,1,none⟩ = some (.slice A0_1 l0_1.length c0_1):=(blk_cell BK258.out 1).trans rfl;have hcz7_2 : w6.cell? ⟨gb258,2,none⟩ = some (.int .i64 a0_2):=(blk_cell BK258.out 2).trans rfl;have hfz7_0:=blk_frozen BK258.out 0;have hfz7_1:=blk_frozen BK258.out 1;have hfz7_2:=blk_frozen BK258.out 2) | ((with_reducible refine gate_callee (f:=52) rfl ?_);refine goesL_ (some 12) rfl rfl Try.func52 (by kernel_rfl) rfl #[.agg #[.int .i64 a0_0, .slice A0_1 l0_1.length c0_1, .int .i64 a0_2], .int .i64 a2] rfl (by (try simp only [List.map_toArray,List.map_cons,List.map_nil]);rfl) ?_;(with_reducible refine (impl_splitStay.calls k a0_0 _ _ l0_1 a0_2 a2 t259 _ ?side1 ?side2 A4.out).mono ?_);(case side1 => repeat (exact (Kd.C_below HR0_1.out HB.out)));(case side2 => exact HC0_1.out);rintro e w8 ⟨v260,rfl,ho0,hb⟩;refine ⟨_,rfl, ?_⟩;have n0_:=Aside0.mk (Kd.R_lower ho0 (below_size (by exact HB.out)));have n1_:=Aside0.mk (blk_below (g:=gb258) (o := .cells #[.int .i64 a0_0, .slice A0_1 l0_1.length c0_1, .int .i64 a0_2] 38 (0,0)) (by exact BK258.out) hb);have n2_:=Aside0.mk (below_step (by exact HB.out) hb);clear BK258;clear HB;have HO261:=n0_;have BK258:=n1_;have HB:=n2_;clear n0_ n1_ n2_;(try clear hb);(try clear ho0);obtain ⟨Ao10,co10,eo10⟩ := Kd.R_slice HO261.out;subst eo10;have q9 : (1 : Int) ≤ ((t259.length : Int) : Int):=of_decide_eq_true (by (with_reducible assumption));obtain ⟨i09,hi09,_,hsz9,_⟩ := info_parts info3;have hroom9 : t259.length ≤ co10:=(Kd.R_reads' HO261.out).2.1;have hC9 : Kd.C (Kd.int .i64) _ Ao10 t259.length t259:=(Kd.R_reads' HO261.out).2.2;have hcut9:=cut_from (P:=Try.prog) 43 3 .i64 Try.underlying43 hi09 1 hsz9 Ao10 t259.length co10 1 (by omega) q9;have hr9:=Kd.C_drop (m:=(1 : Int).toNat) (c:=co10) hC9 (by omega) hroom9;obtain ⟨A9,hA9⟩ : ∃ A1,A1 = (if co10 = (1 : Int).toNat then Ao10 else (Ao10 : Option Addr).map (·.add ((1 : Int).toNat * 1))):=⟨_,rfl⟩;obtain ⟨c9,hc9⟩ : ∃ c1,c1 = co10 - (1 : Int).toNat:=⟨_,rfl⟩;have hy9 : y262.length = t259.length - (1 : Int).toNat:=(by rw [Ny262.out,List.length_drop] <;> omega);rw [show (t259).drop (1 : Int).toNat = y262 from Ny262.out.symm] at hr9;replace hr9 : Kd.C (Kd.int .i64) _ A9 y262.length y262:=(by rw [hA9];exact hr9);rw [← hy9,← hA9,← hc9] at hcut9;have HR265:=Aside0.mk hr9;have HC265:=Aside0.mk (show y262.length ≤ c9 from by rw [hy9,hc9];exact Nat.sub_le_sub_right hroom9 _);clear hr9 hC9 hroom9 hi09 hsz9 hc9;have KY9:=Aside0.mk hy9;have KA9:=Aside0.mk hA9;clear hy9 hA9;have KL9:=Aside0.mk (show 1 ≤ t259.length from by omega);replace q9:=eq_true q9))
  (skip)
  go_loopg [7,15] k (fun kq v7 v15 w' => ∃ (x7_1 : Int) (x15_1 : Int),v7 = .int .i64 x7_1 ∧ v15 = .int .i64 x15_1 ∧ Aside0 (impl_stayCharge.l0 kq a1 x7_1 y262 (y262.length : Int) x15_1 a0_0 l0_1 a0_2 = some r) ∧ Aside0 (kq ≤ k) ∧ Aside0 (w'.heap[gb258]? = some (.cells #[.int .i64 a0_0,(.slice A0_1 l0_1.length c0_1), .int .i64 a0_2] 38 (0,0))) ∧ Aside0 (Kd.C (Kd.int .i64) w' A9 y262.length y262) ∧ Aside0 (Below w.heap.size w w'))
  case atStart => exact ⟨(0),(0),(by rfl),(by rfl),H',⟨Nat.le_refl _⟩,⟨by exact BK258.out⟩,⟨by exact HR265.out⟩,⟨by exact HB.out⟩⟩
  case round =>
   clear H'
   try clear c1
   try clear p2
   try clear c4
   try clear c5
   try clear c5b0
   try clear c5b1
   try clear c9
   try clear q9
   try clear hcz7_0
   try clear hcz7_1
   try clear hcz7_2
   try clear hfz7_0
   try clear hfz7_1
   try clear hfz7_2
   try clear q9
   obtain ⟨x7_1,x15_1,rfl,rfl,HA,HK1,BK258,HR265,HB⟩ := hrel
   cases gk with
   | zero => exact absurd HA.out (by simp [impl_stayCharge.l0])
   | succ k1 =>
    have H:=HA.out
    clear HA
    simp only [impl_stayCharge.l0] at H
    by_cases c11 : x15_1 < (y262.length : Int)
    ·rw [if_pos c11] at H
     have c11b0 : decide (x15_1 < (y262.length : Int)) = true:=decide_eq_true c11
     clear c11
     by_cases c12 : 0 ≤ x15_1
     ·rw [if_pos c12] at H
      have c12b0 : decide (0 ≤ x15_1) = true:=decide_eq_true c12
      clear c12
      by_cases c13 : x15_1 < (y262.length : Int)
      ·rw [if_pos c13] at H
       have c13b0 : decide (x15_1 < (y262.length : Int)) = true:=decide_eq_true c13
       clear c13
       by_cases c14 : x15_1 < (l0_1.length : Int)
       ·rw [if_pos c14] at H
        have c14b0 : decide (x15_1 < (l0_1.length : Int)) = true:=decide_eq_true c14
        clear c14
        have H':=Aside0.mk H
        clear H
        have p266 : 0 ≤ (x15_1 : Int):=of_decide_eq_true (by (with_reducible assumption))
        have q266 : x15_1 < (y262.length : Int):=of_decide_eq_true (by (with_reducible assumption))
        obtain ⟨ad266,e266,hx266_0⟩ := Kd.at_int HR265.out x15_1 p266 q266
        cases e266
        try replace hx266_0:=(HB.out.cell (World.block_lt_of_cell? w _ hx266_0)).trans hx266_0
        replace p266:=eq_true p266
        replace q266:=eq_true q266
        have hcz15_0 : wr.cell? ⟨gb258,0,none⟩ = some (.int .i64 a0_0):=(blk_cell BK258.out 0).trans rfl
        have hcz15_1 : wr.cell? ⟨gb258,1,none⟩ = some (.slice A0_1 l0_1.length c0_1):=(blk_cell BK258.out 1).trans rfl
        have hcz15_2 : wr.cell? ⟨gb258,2,none⟩ = some (.int .i64 a0_2):=(blk_cell BK258.out 2).trans rfl
        have hfz15_0:=blk_frozen BK258.out 0
        have hfz15_1:=blk_frozen BK258.out 1
        have hfz15_2:=blk_frozen BK258.out 2
        have p267 : 0 ≤ (x15_1 : Int):=of_decide_eq_true (by (with_reducible assumption))
        have q267 : x15_1 < (l0_1.length : Int):=of_decide_eq_true (by (with_reducible assumption))
        obtain ⟨ad267,e267,hx267_0,hx267_1⟩ := at_T51 HR0_1.out x15_1 p267 q267
        cases e267
        replace hx267_0:=(HB.out.cell (World.block_lt_of_cell? w _ hx267_0)).trans hx267_0
        replace hx267_1:=(HB.out.cell (World.block_lt_of_cell? w _ hx267_1)).trans hx267_1
        replace p267:=eq_true p267
        replace q267:=eq_true q267
        go_wp2
        go_roundg k1
        case measure => have:=HK1.out;omega
        case rel => exact ⟨(wrap64 (x7_1 + (wrap64 ((rd y262 x15_1) * ((rd_T51 l0_1 x15_1).f1))))),(wrap64 (x15_1 + 1)),(by rfl),(by rfl),H',⟨by have:=HK1.out;omega⟩,⟨by exact BK258.out⟩,⟨by exact HR265.out⟩,⟨by exact HB.out⟩⟩
       ·rw [if_neg c14] at H
        exact absurd H (by simp)
      ·rw [if_neg c13] at H
       exact absurd H (by simp)
     ·rw [if_neg c12] at H
      exact absurd H (by simp)
    ·rw [if_neg c11] at H
     have c11b0 : decide (x15_1 < (y262.length : Int)) = false:=decide_eq_false c11
     clear c11
     by_cases c16 : a1 = 2
     ·rw [if_pos c16] at H
      have c16b0 : (a1 == 2) = true:=beq_iff_eq.mpr c16
      have c16b1 : (a1 != 2) = false:=bne_eq_false_iff_eq.mpr c16
      clear c16
      replace H:=Option.bind_eq_some_iff.mp H
      obtain ⟨t268,A170,H⟩ := H
      replace H : (some t268) = some r:=H
      have A17:=Aside0.mk A170
      clear A170
      obtain rfl:=Option.some.inj H
      have hcz18_0 : wr.cell? ⟨gb258,0,none⟩ = some (.int .i64 a0_0):=(blk_cell BK258.out 0).trans rfl
      have hcz18_1 : wr.cell? ⟨gb258,1,none⟩ = some (.slice A0_1 l0_1.length c0_1):=(blk_cell BK258.out 1).trans rfl
      have hcz18_2 : wr.cell? ⟨gb258,2,none⟩ = some (.int .i64 a0_2):=(blk_cell BK258.out 2).trans rfl
      have hfz18_0:=blk_frozen BK258.out 0
      have hfz18_1:=blk_frozen BK258.out 1
      have hfz18_2:=blk_frozen BK258.out 2
      go_wp2_with (((with_reducible refine gate_callee (f:=60) rfl ?_);refine goesL_ (some 37) rfl rfl Try.func60 (by kernel_rfl) rfl #[.int .i64 (wrap64 (x7_1 * a0_2)), .int .i64 100] rfl (by (try simp only [List.map_toArray,List.map_cons,List.map_nil]);rfl) ?_;(with_reducible refine (impl_ceiling.calls (wrap64 (x7_1 * a0_2)) 100 t268 _ A17.out).mono ?_);rintro e w' ⟨rfl,⟨nd,rfl⟩⟩;refine ⟨_,rfl, ?_⟩))
      go_ret
      exact ⟨by rfl,by repeat ((with_reducible first | exact HB.out | apply pw_below_drewN))⟩
     ·rw [if_neg c16] at H
      have c16b0 : (a1 == 2) = false:=beq_eq_false_iff_ne.mpr c16
      have c16b1 : (a1 != 2) = true:=bne_iff_ne.mpr c16
      obtain rfl:=Option.some.inj H
      go_wp2
      go_ret
      exact ⟨by rfl,by exact HB.out⟩
 ·rw [if_neg c5] at H
  exact absurd H (by simp)

/-! ### impl_StayCharge: function 15 -/
def impl_StayCharge.f (k : Nat) (a0_0 : Int) (l0_1 : List (S51)) (a0_2 : Int) (a1 : Int) (a2 : Int) : Option (Int × Bool):=(impl_isStay.f k a0_0 l0_1 a0_2 a1 a2).bind fun t270 => (if t270 = true then ((impl_stayCharge.f k a0_0 l0_1 a0_2 a1 a2).bind fun t271 => (some (t271,true))) else (some (0,false)))
theorem impl_StayCharge.mono : ∀ a0 a1 a2 a3 a4 k,LeO (impl_StayCharge.f k a0 a1 a2 a3 a4) (impl_StayCharge.f (k + 1) a0 a1 a2 a3 a4):=by
 intro a0 a1 a2 a3 a4 k
 unfold impl_StayCharge.f
 repeat' first
   | (with_reducible exact impl_isStay.mono _ _ _ _ _ _)
   | (with_reducible exact impl_stayCharge.mono _ _ _ _ _ _)
   | (with_reducible exact LeO.refl _)
   | (with_reducible exact LeO.none _)
   | (with_reducible refine LeO.ite ?_ ?_)
   | (with_reducible refine LeO.bind ?_ (fun _ => ?_))
   | exact impl_isStay.mono _ _ _ _ _ _
   | exact impl_stayCharge.mono _ _ _ _ _ _
   | exact LeO.none _
   | refine LeO.ite ?_ ?_
   | refine LeO.bind ?_ (fun _ => ?_)
set_option maxHeartbeats 8000000 in
set_option maxRecDepth 100000 in
theorem impl_StayCharge.calls (k : Nat) (a0_0 : Int) (A0_1 : Option Addr) (c0_1 : Nat) (l0_1 : List (S51)) (a0_2 : Int) (a1 : Int) (a2 : Int) (r1 : Int) (r2 : Bool) (w : World) (hr0_1 : Kd.C k51 w A0_1 l0_1.length l0_1) (hc0_1 : l0_1.length ≤ c0_1) (h : impl_StayCharge.f k a0_0 l0_1 a0_2 a1 a2 = some (r1,r2)) :
  Calls Try.prog 15 #[.agg #[.int .i64 a0_0, .slice A0_1 l0_1.length c0_1, .int .i64 a0_2], .int .i64 a1, .int .i64 a2] w fun e w' => e = .returned (.tuple #[.int .i64 r1, .bool r2]) ∧ Below w.heap.size w w':=by
 have hu38:=Try.underlying38
 have HR0_1:=Aside0.mk hr0_1
 have HC0_1:=Aside0.mk hc0_1
 clear hr0_1 hc0_1
 have HB:=Aside0.mk (Below.refl w.heap.size w)
 have H : ((impl_isStay.f k a0_0 l0_1 a0_2 a1 a2).bind fun t270 => (if t270 = true then ((impl_stayCharge.f k a0_0 l0_1 a0_2 a1 a2).bind fun t271 => (some (t271,true))) else (some (0,false)))) = some (r1,r2):=h
 clear h
 replace H:=Option.bind_eq_some_iff.mp H
 obtain ⟨t270,A40,H⟩ := H
 replace H : (if t270 = true then ((impl_stayCharge.f k a0_0 l0_1 a0_2 a1 a2).bind fun t271 => (some (t271,true))) else (some (0,false))) = some (r1,r2):=H
 have A4:=Aside0.mk A40
 clear A40
 by_cases c5 : t270 = true
 ·subst c5
  have H1 : ((impl_stayCharge.f k a0_0 l0_1 a0_2 a1 a2).bind fun t271 => (some (t271,true))) = some (r1,r2):=by rw [if_pos rfl] at H;exact H
  clear H
  have H:=H1
  clear H1
  replace H:=Option.bind_eq_some_iff.mp H
  obtain ⟨t271,A60,H⟩ := H
  replace H : (some (t271,true)) = some (r1,r2):=H
  have A6:=Aside0.mk A60
  clear A60
  simp only [Option.some.injEq,Prod.mk.injEq] at H
  obtain ⟨rfl,rfl⟩ := H
  go_enter Try.func15,Try.ntmps15
  go_wp2_with (first | ((with_reducible refine gate_dst (N:=3) rfl ?_);refine box_event ?hg (N:=3) ?hd (cs:=#[.int .i64 a0_0, .slice A0_1 l0_1.length c0_1, .int .i64 a0_2]) (t:=38) ?hr ?_;(case hd => rfl);(case hg => rfl);(case hr => (go_simp;done));intro gb269 hg w7 hbox hb;have n0_:=Aside0.mk (below_step (by exact HB.out) hb);have n1_:=Aside0.mk (hbox);have n2_:=Aside0.mk ((by rw [hg];exact (below_size (by exact HB.out)) : w.heap.size ≤ gb269));have n3_:=Aside0.mk ((by rw [hg];exact (below_size (by exact HB.out)) : w.heap.size ≤ gb269));clear HB;have HB:=n0_;have BK269:=n1_;have GW269:=n2_;have GE269:=n3_;clear n0_ n1_ n2_ n3_;clear hb hbox hg;have hcz8_0 : w7.cell? ⟨gb269,0,none⟩ = some (.int .i64 a0_0):=(blk_cell BK269.out 0).trans rfl;have hcz8_1 : w7.cell? ⟨gb269,1,none⟩ = some (.slice A0_1 l0_1.length c0_1):=(blk_cell BK269.out 1).trans rfl;have hcz8_2 : w7.cell? ⟨gb269,2,none⟩ = some (.int .i64 a0_2):=(blk_cell BK269.out 2).trans rfl;have hfz8_0:=blk_frozen BK269.out 0;have hfz8_1:=blk_frozen BK269.out 1;have hfz8_2:=blk_frozen BK269.out 2) | ((with_reducible refine gate_callee (f:=46) rfl ?_);refine goesL_ (some 11) rfl rfl Try.func46 (by kernel_rfl) rfl #[.agg #[.int .i64 a0_0, .slice A0_1 l0_1.length c0_1, .int .i64 a0_2], .int .i64 a1, .int .i64 a2] rfl (by (try simp only [List.map_toArray,List.map_cons,List.map_nil]);rfl) ?_;(with_reducible refine (impl_isStay.calls k a0_0 _ _ l0_1 a0_2 a1 a2 true _ ?side1 ?side2 A4.out).mono ?_);(case side1 => repeat (exact (Kd.C_below HR0_1.out HB.out)));(case side2 => exact HC0_1.out);rintro e w9 ⟨rfl,hb⟩;refine ⟨_,rfl, ?_⟩;have n0_:=Aside0.mk (blk_below (g:=gb269) (o := .cells #[.int .i64 a0_0, .slice A0_1 l0_1.length c0_1, .int .i64 a0_2] 38 (0,0)) (by exact BK269.out) hb);have n1_:=Aside0.mk (below_step (by exact HB.out) hb);clear BK269;clear HB;have BK269:=n0_;have HB:=n1_;clear n0_ n1_;(try clear hb);have hcz10_0 : w9.cell? ⟨gb269,0,none⟩ = some (.int .i64 a0_0):=(blk_cell BK269.out 0).trans rfl;have hcz10_1 : w9.cell? ⟨gb269,1,none⟩ = some (.slice A0_1 l0_1.length c0_1):=(blk_cell BK269.out 1).trans rfl;have hcz10_2 : w9.cell? ⟨gb269,2,none⟩ = some (.int .i64 a0_2):=(blk_cell BK269.out 2).trans rfl;have hfz10_0:=blk_frozen BK269.out 0;have hfz10_1:=blk_frozen BK269.out 1;have hfz10_2:=blk_frozen BK269.out 2) | ((with_reducible refine gate_callee (f:=47) rfl ?_);refine goesL_ (some 16) rfl rfl Try.func47 (by kernel_rfl) rfl #[.agg #[.int .i64 a0_0, .slice A0_1 l0_1.length c0_1, .int .i64 a0_2], .int .i64 a1, .int .i64 a2] rfl (by (try simp only [List.map_toArray,List.map_cons,List.map_nil]);rfl) ?_;(with_reducible refine (impl_stayCharge.calls k a0_0 _ _ l0_1 a0_2 a1 a2 t271 _ ?side1 ?side2 A6.out).mono ?_);(case side1 => repeat (exact (Kd.C_below HR0_1.out HB.out)));(case side2 => exact HC0_1.out);rintro e w11 ⟨rfl,hb⟩;refine ⟨_,rfl, ?_⟩;have n0_:=Aside0.mk (blk_below (g:=gb269) (o := .cells #[.int .i64 a0_0, .slice A0_1 l0_1.length c0_1, .int .i64 a0_2] 38 (0,0)) (by exact BK269.out) hb);have n1_:=Aside0.mk (below_step (by exact HB.out) hb);clear BK269;clear HB;have BK269:=n0_;have HB:=n1_;clear n0_ n1_;(try clear hb)))
  go_ret2
  exact ⟨by rfl,by exact HB.out⟩
 ·replace c5:=Bool.eq_false_iff.mpr c5
  subst c5
  have H1 : (some (0,false)) = some (r1,r2):=by rw [if_neg (show ¬ (false = true) by decide)] at H;exact H
  clear H
  have H:=H1
  clear H1
  simp only [Option.some.injEq,Prod.mk.injEq] at H
  obtain ⟨rfl,rfl⟩ := H
  go_enter Try.func15,Try.ntmps15
  go_wp2_with (first | ((with_reducible refine gate_dst (N:=3) rfl ?_);refine box_event ?hg (N:=3) ?hd (cs:=#[.int .i64 a0_0, .slice A0_1 l0_1.length c0_1, .int .i64 a0_2]) (t:=38) ?hr ?_;(case hd => rfl);(case hg => rfl);(case hr => (go_simp;done));intro gb269 hg w12 hbox hb;have n0_:=Aside0.mk (below_step (by exact HB.out) hb);have n1_:=Aside0.mk (hbox);have n2_:=Aside0.mk ((by rw [hg];exact (below_size (by exact HB.out)) : w.heap.size ≤ gb269));have n3_:=Aside0.mk ((by rw [hg];exact (below_size (by exact HB.out)) : w.heap.size ≤ gb269));clear HB;have HB:=n0_;have BK269:=n1_;have GW269:=n2_;have GE269:=n3_;clear n0_ n1_ n2_ n3_;clear hb hbox hg;have hcz13_0 : w12.cell? ⟨gb269,0,none⟩ = some (.int .i64 a0_0):=(blk_cell BK269.out 0).trans rfl;have hcz13_1 : w12.cell? ⟨gb269,1,none⟩ = some (.slice A0_1 l0_1.length c0_1):=(blk_cell BK269.out 1).trans rfl;have hcz13_2 : w12.cell? ⟨gb269,2,none⟩ = some (.int .i64 a0_2):=(blk_cell BK269.out 2).trans rfl;have hfz13_0:=blk_frozen BK269.out 0;have hfz13_1:=blk_frozen BK269.out 1;have hfz13_2:=blk_frozen BK269.out 2) | ((with_reducible refine gate_callee (f:=46) rfl ?_);refine goesL_ (some 11) rfl rfl Try.func46 (by kernel_rfl) rfl #[.agg #[.int .i64 a0_0, .slice A0_1 l0_1.length c0_1, .int .i64 a0_2], .int .i64 a1, .int .i64 a2] rfl (by (try simp only [List.map_toArray,List.map_cons,List.map_nil]);rfl) ?_;(with_reducible refine (impl_isStay.calls k a0_0 _ _ l0_1 a0_2 a1 a2 false _ ?side1 ?side2 A4.out).mono ?_);(case side1 => repeat (exact (Kd.C_below HR0_1.out HB.out)));(case side2 => exact HC0_1.out);rintro e w14 ⟨rfl,hb⟩;refine ⟨_,rfl, ?_⟩;have n0_:=Aside0.mk (blk_below (g:=gb269) (o := .cells #[.int .i64 a0_0, .slice A0_1 l0_1.length c0_1, .int .i64 a0_2] 38 (0,0)) (by exact BK269.out) hb);have n1_:=Aside0.mk (below_step (by exact HB.out) hb);clear BK269;clear HB;have BK269:=n0_;have HB:=n1_;clear n0_ n1_;(try clear hb)))
  go_ret2
  exact ⟨by rfl,by exact HB.out⟩

/-! ### spec_l1In: function 41 -/
def spec_l1In.f (a0 : Int) (a1 : Int) (a2 : Int) : Option (Bool):=if a0 ≥ a1 then (some (decide (a0 ≤ a2))) else (some false)
set_option maxHeartbeats 8000000 in
set_option maxRecDepth 100000 in
theorem spec_l1In.calls (a0 : Int) (a1 : Int) (a2 : Int) (r : Bool) (w : World) (h : spec_l1In.f a0 a1 a2 = some r) :
  Calls Try.prog 41 #[.int .i64 a0, .int .i64 a1, .int .i64 a2] w fun e w' => e = .returned (.bool r) ∧ Drawn0 w w':=by
 have H : (if a0 ≥ a1 then (some (decide (a0 ≤ a2))) else (some false)) = some r:=h
 clear h
 by_cases c4 : a0 ≥ a1
 ·rw [if_pos c4] at H
  have c4b0 : decide (a1 ≤ a0) = true:=decide_eq_true c4
  clear c4
  obtain rfl:=Option.some.inj H
  go_enter Try.func41,Try.ntmps41
  go_wp2
  go_ret
  exact ⟨by rfl,by repeat (exact Drawn0.refl _)⟩
 ·rw [if_neg c4] at H
  have c4b0 : decide (a1 ≤ a0) = false:=decide_eq_false c4
  clear c4
  obtain rfl:=Option.some.inj H
  go_enter Try.func41,Try.ntmps41
  go_wp2
  go_ret
  exact ⟨by rfl,by repeat (exact Drawn0.refl _)⟩

/-! ### spec_l22Good: function 54 -/
mutual
def spec_l22Good.j0 : Nat → Bool → Int → List (S51) → Int → Option (Bool)
 | 0,_,_,_,_ => none
 | k + 1,x20,x273000,x273001,x273002 => if x20 = true then (some false) else (spec_l22Good.l0 k 0 x273000 x273001 x273002)
def spec_l22Good.l0 : Nat → Int → Int → List (S51) → Int → Option (Bool)
 | 0,_,_,_,_ => none
 | k + 1,x3,x273000,x273001,x273002 => if x3 < (x273001.length : Int) then (if 0 ≤ x3 then ((spec_l1In.f ((rd_T51 x273001 x3).f0) 1 100).bind fun t277 => (if t277 = true then ((spec_l1In.f ((rd_T51 x273001 x3).f1) 0 10000).bind fun t279 => (if t279 = true then (spec_l22Good.l0 k (wrap64 (x3 + 1)) x273000 x273001 x273002) else (some false))) else (some false))) else (none)) else (some true)
end
def spec_l22Good.f (k : Nat) (a0_0 : Int) (l0_1 : List (S51)) (a0_2 : Int) : Option (Bool):=(spec_l1In.f a0_0 0 30).bind fun t273 => (if t273 = true then ((spec_l1In.f (l0_1.length : Int) 1 6).bind fun t274 => (if t274 = true then ((spec_l1In.f a0_2 100 300).bind fun t275 => (spec_l22Good.j0 k (!t275) a0_0 l0_1 a0_2)) else (spec_l22Good.j0 k true a0_0 l0_1 a0_2))) else (spec_l22Good.j0 k true a0_0 l0_1 a0_2))
theorem spec_l22Good.mono_l : ∀ k,(∀ y0 y1 y2 y3,LeO (spec_l22Good.j0 k y0 y1 y2 y3) (spec_l22Good.j0 (k + 1) y0 y1 y2 y3)) ∧ (∀ y0 y1 y2 y3,LeO (spec_l22Good.l0 k y0 y1 y2 y3) (spec_l22Good.l0 (k + 1) y0 y1 y2 y3))
 | 0 => ⟨fun _ _ _ _ r h => by simp [spec_l22Good.j0] at h,fun _ _ _ _ r h => by simp [spec_l22Good.l0] at h⟩
 | k + 1 => by
  obtain ⟨ih0,ih1⟩ := spec_l22Good.mono_l k
  refine ⟨?_, ?_⟩
  ·intro y0 y1 y2 y3
   unfold spec_l22Good.j0
   repeat' first
   | (with_reducible exact ih0 _ _ _ _)
   | (with_reducible exact ih1 _ _ _ _)
   | (with_reducible exact LeO.refl _)
   | (with_reducible exact LeO.none _)
   | (with_reducible refine LeO.ite ?_ ?_)
   | (with_reducible refine LeO.bind ?_ (fun _ => ?_))
   | exact ih0 _ _ _ _
   | exact ih1 _ _ _ _
   | exact LeO.none _
   | refine LeO.ite ?_ ?_
   | refine LeO.bind ?_ (fun _ => ?_)
  ·intro y0 y1 y2 y3
   unfold spec_l22Good.l0
   repeat' first
   | (with_reducible exact ih0 _ _ _ _)
   | (with_reducible exact ih1 _ _ _ _)
   | (with_reducible exact LeO.refl _)
   | (with_reducible exact LeO.none _)
   | (with_reducible refine LeO.ite ?_ ?_)
   | (with_reducible refine LeO.bind ?_ (fun _ => ?_))
   | exact ih0 _ _ _ _
   | exact ih1 _ _ _ _
   | exact LeO.none _
   | refine LeO.ite ?_ ?_
   | refine LeO.bind ?_ (fun _ => ?_)
theorem spec_l22Good.mono : ∀ a0 a1 a2 k,LeO (spec_l22Good.f k a0 a1 a2) (spec_l22Good.f (k + 1) a0 a1 a2):=by
 intro a0 a1 a2 k
 obtain ⟨ih0,ih1⟩ := spec_l22Good.mono_l k
 unfold spec_l22Good.f
 repeat' first
   | (with_reducible exact ih0 _ _ _ _)
   | (with_reducible exact ih1 _ _ _ _)
   | (with_reducible exact LeO.refl _)
   | (with_reducible exact LeO.none _)
   | (with_reducible refine LeO.ite ?_ ?_)
   | (with_reducible refine LeO.bind ?_ (fun _ => ?_))
   | exact ih0 _ _ _ _
   | exact ih1 _ _ _ _
   | exact LeO.none _
   | refine LeO.ite ?_ ?_
   | refine LeO.bind ?_ (fun _ => ?_)
set_option maxHeartbeats 8000000 in
set_option maxRecDepth 100000 in
theorem spec_l22Good.calls (k : Nat) (a0_0 : Int) (A0_1 : Option Addr) (c0_1 : Nat) (l0_1 : List (S51)) (a0_2 : Int) (r : Bool) (w : World) (hr0_1 : Kd.C k51 w A0_1 l0_1.length l0_1) (hc0_1 : l0_1.length ≤ c0_1) (h : spec_l22Good.f k a0_0 l0_1 a0_2 = some r) :
  Calls Try.prog 54 #[.agg #[.int .i64 a0_0, .slice A0_1 l0_1.length c0_1, .int .i64 a0_2]] w fun e w' => e = .returned (.bool r) ∧ Below w.heap.size w w':=by
 have hu38:=Try.underlying38
 have HR0_1:=Aside0.mk hr0_1
 have HC0_1:=Aside0.mk hc0_1
 clear hr0_1 hc0_1
 have HB:=Aside0.mk (Below.refl w.heap.size w)
 have H : ((spec_l1In.f a0_0 0 30).bind fun t273 => (if t273 = true then ((spec_l1In.f (l0_1.length : Int) 1 6).bind fun t274 => (if t274 = true then ((spec_l1In.f a0_2 100 300).bind fun t275 => (spec_l22Good.j0 k (!t275) a0_0 l0_1 a0_2)) else (spec_l22Good.j0 k true a0_0 l0_1 a0_2))) else (spec_l22Good.j0 k true a0_0 l0_1 a0_2))) = some r:=h
 clear h
 have HC2:=Aside0.mk H
 clear H
 go_enter Try.func54,Try.ntmps54
 go_upto_region 1 with (((with_reducible refine gate_dst (N:=1) rfl ?_);(try (refine gate_guard (by rfl) ?_;dsimp only));refine box_event ?hg (N:=1) ?hd (cs:=#[.int .i64 a0_0, .slice A0_1 l0_1.length c0_1, .int .i64 a0_2]) (t:=38) ?hr ?_;(case hd => rfl);(case hg => rfl);(case hr => (go_simp;done));intro gb272 hg w3 hbox hb;have n0_:=Aside0.mk (below_step (by exact HB.out) hb);have n1_:=Aside0.mk (hbox);have n2_:=Aside0.mk ((by rw [hg];exact (below_size (by exact HB.out)) : w.heap.size ≤ gb272));have n3_:=Aside0.mk ((by rw [hg];exact (below_size (by exact HB.out)) : w.heap.size ≤ gb272));clear HB;have HB:=n0_;have BK272:=n1_;have GW272:=n2_;have GE272:=n3_;clear n0_ n1_ n2_ n3_;clear hb hbox hg))
 (skip)
 go_cut [20] (fun v20 wc => ∃ (kq : Nat) (x20_1 : Bool),v20 = .bool x20_1 ∧ Aside0 (spec_l22Good.j0 kq x20_1 a0_0 l0_1 a0_2 = some r) ∧ Aside0 (kq ≤ k) ∧ Aside0 (wc.heap[gb272]? = some (.cells #[.int .i64 a0_0,(.slice A0_1 l0_1.length c0_1), .int .i64 a0_2] 38 (0,0))) ∧ Aside0 (Below w.heap.size w wc))
 case first =>
  have H:=HC2.out
  clear HC2
  replace H:=Option.bind_eq_some_iff.mp H
  obtain ⟨t273,A40,H⟩ := H
  replace H : (if t273 = true then ((spec_l1In.f (l0_1.length : Int) 1 6).bind fun t274 => (if t274 = true then ((spec_l1In.f a0_2 100 300).bind fun t275 => (spec_l22Good.j0 k (!t275) a0_0 l0_1 a0_2)) else (spec_l22Good.j0 k true a0_0 l0_1 a0_2))) else (spec_l22Good.j0 k true a0_0 l0_1 a0_2)) = some r:=H
  have A4:=Aside0.mk A40
  clear A40
  by_cases c5 : t273 = true
  ·subst c5
   have H1 : ((spec_l1In.f (l0_1.length : Int) 1 6).bind fun t274 => (if t274 = true then ((spec_l1In.f a0_2 100 300).bind fun t275 => (spec_l22Good.j0 k (!t275) a0_0 l0_1 a0_2)) else (spec_l22Good.j0 k true a0_0 l0_1 a0_2))) = some r:=by rw [if_pos rfl] at H;exact H
   clear H
   have H:=H1
   clear H1
   replace H:=Option.bind_eq_some_iff.mp H
   obtain ⟨t274,A60,H⟩ := H
   replace H : (if t274 = true then ((spec_l1In.f a0_2 100 300).bind fun t275 => (spec_l22Good.j0 k (!t275) a0_0 l0_1 a0_2)) else (spec_l22Good.j0 k true a0_0 l0_1 a0_2)) = some r:=H
   have A6:=Aside0.mk A60
   clear A60
   by_cases c7 : t274 = true
   ·subst c7
    have H1 : ((spec_l1In.f a0_2 100 300).bind fun t275 => (spec_l22Good.j0 k (!t275) a0_0 l0_1 a0_2)) = some r:=by rw [if_pos rfl] at H;exact H
    clear H
    have H:=H1
    clear H1
    replace H:=Option.bind_eq_some_iff.mp H
    obtain ⟨t275,A80,H⟩ := H
    replace H : (spec_l22Good.j0 k (!t275) a0_0 l0_1 a0_2) = some r:=H
    have A8:=Aside0.mk A80
    clear A80
    have H':=Aside0.mk H
    clear H
    have hcz9_0 : w3.cell? ⟨gb272,0,none⟩ = some (.int .i64 a0_0):=(blk_cell BK272.out 0).trans rfl
    have hcz9_1 : w3.cell? ⟨gb272,1,none⟩ = some (.slice A0_1 l0_1.length c0_1):=(blk_cell BK272.out 1).trans rfl
    have hcz9_2 : w3.cell? ⟨gb272,2,none⟩ = some (.int .i64 a0_2):=(blk_cell BK272.out 2).trans rfl
    have hfz9_0:=blk_frozen BK272.out 0
    have hfz9_1:=blk_frozen BK272.out 1
    have hfz9_2:=blk_frozen BK272.out 2
    go_wp2_with (first | ((with_reducible refine gate_callee (f:=41) rfl ?_);refine goesL_ (some 6) rfl rfl Try.func41 (by kernel_rfl) rfl #[.int .i64 a0_0, .int .i64 0, .int .i64 30] rfl (by (try simp only [List.map_toArray,List.map_cons,List.map_nil]);rfl) ?_;(with_reducible refine (spec_l1In.calls a0_0 0 30 true _ A4.out).mono ?_);rintro e w' ⟨rfl,⟨nd,rfl⟩⟩;refine ⟨_,rfl, ?_⟩) | (go_at_call 41;(with_reducible refine (spec_l1In.calls (l0_1.length : Int) 1 6 true _ A6.out).mono ?_);rintro e w' ⟨rfl,⟨nd,rfl⟩⟩) | (go_at_call 41;(with_reducible refine (spec_l1In.calls a0_2 100 300 t275 _ A8.out).mono ?_);rintro e w' ⟨rfl,⟨nd,rfl⟩⟩))
    go_meet
    case rel => exact ⟨_,(!t275),(by rfl),H',⟨by omega⟩,⟨by (with_reducible repeat (refine blk_drewN ?_ _));exact BK272.out⟩,⟨by repeat ((with_reducible first | exact HB.out | apply pw_below_drewN))⟩⟩
   ·replace c7:=Bool.eq_false_iff.mpr c7
    subst c7
    have H1 : (spec_l22Good.j0 k true a0_0 l0_1 a0_2) = some r:=by rw [if_neg (show ¬ (false = true) by decide)] at H;exact H
    clear H
    have H:=H1
    clear H1
    have H':=Aside0.mk H
    clear H
    have hcz10_0 : w3.cell? ⟨gb272,0,none⟩ = some (.int .i64 a0_0):=(blk_cell BK272.out 0).trans rfl
    have hcz10_1 : w3.cell? ⟨gb272,1,none⟩ = some (.slice A0_1 l0_1.length c0_1):=(blk_cell BK272.out 1).trans rfl
    have hcz10_2 : w3.cell? ⟨gb272,2,none⟩ = some (.int .i64 a0_2):=(blk_cell BK272.out 2).trans rfl
    have hfz10_0:=blk_frozen BK272.out 0
    have hfz10_1:=blk_frozen BK272.out 1
    have hfz10_2:=blk_frozen BK272.out 2
    go_wp2_with (first | ((with_reducible refine gate_callee (f:=41) rfl ?_);refine goesL_ (some 6) rfl rfl Try.func41 (by kernel_rfl) rfl #[.int .i64 a0_0, .int .i64 0, .int .i64 30] rfl (by (try simp only [List.map_toArray,List.map_cons,List.map_nil]);rfl) ?_;(with_reducible refine (spec_l1In.calls a0_0 0 30 true _ A4.out).mono ?_);rintro e w' ⟨rfl,⟨nd,rfl⟩⟩;refine ⟨_,rfl, ?_⟩) | (go_at_call 41;(with_reducible refine (spec_l1In.calls (l0_1.length : Int) 1 6 false _ A6.out).mono ?_);rintro e w' ⟨rfl,⟨nd,rfl⟩⟩))
    go_meet
    case rel => exact ⟨_,(true),(by rfl),H',⟨by omega⟩,⟨by (with_reducible repeat (refine blk_drewN ?_ _));exact BK272.out⟩,⟨by repeat ((with_reducible first | exact HB.out | apply pw_below_drewN))⟩⟩
  ·replace c5:=Bool.eq_false_iff.mpr c5
   subst c5
   have H1 : (spec_l22Good.j0 k true a0_0 l0_1 a0_2) = some r:=by rw [if_neg (show ¬ (false = true) by decide)] at H;exact H
   clear H
   have H:=H1
   clear H1
   have H':=Aside0.mk H
   clear H
   have hcz11_0 : w3.cell? ⟨gb272,0,none⟩ = some (.int .i64 a0_0):=(blk_cell BK272.out 0).trans rfl
   have hcz11_1 : w3.cell? ⟨gb272,1,none⟩ = some (.slice A0_1 l0_1.length c0_1):=(blk_cell BK272.out 1).trans rfl
   have hcz11_2 : w3.cell? ⟨gb272,2,none⟩ = some (.int .i64 a0_2):=(blk_cell BK272.out 2).trans rfl
   have hfz11_0:=blk_frozen BK272.out 0
   have hfz11_1:=blk_frozen BK272.out 1
   have hfz11_2:=blk_frozen BK272.out 2
   go_wp2_with (((with_reducible refine gate_callee (f:=41) rfl ?_);refine goesL_ (some 6) rfl rfl Try.func41 (by kernel_rfl) rfl #[.int .i64 a0_0, .int .i64 0, .int .i64 30] rfl (by (try simp only [List.map_toArray,List.map_cons,List.map_nil]);rfl) ?_;(with_reducible refine (spec_l1In.calls a0_0 0 30 false _ A4.out).mono ?_);rintro e w' ⟨rfl,⟨nd,rfl⟩⟩;refine ⟨_,rfl, ?_⟩))
   go_meet
   case rel => exact ⟨_,(true),(by rfl),H',⟨by omega⟩,⟨by (with_reducible repeat (refine blk_drewN ?_ _));exact BK272.out⟩,⟨by repeat ((with_reducible first | exact HB.out | apply pw_below_drewN))⟩⟩
 case rest =>
  clear HC2
  try clear p2
  try clear c4
  try clear c5
  try clear c7
  try clear hcz10_0
  try clear hcz10_1
  try clear hcz10_2
  try clear hcz11_0
  try clear hcz11_1
  try clear hcz11_2
  try clear hcz9_0
  try clear hcz9_1
  try clear hcz9_2
  try clear hfz10_0
  try clear hfz10_1
  try clear hfz10_2
  try clear hfz11_0
  try clear hfz11_1
  try clear hfz11_2
  try clear hfz9_0
  try clear hfz9_1
  try clear hfz9_2
  obtain ⟨kq,x20_1,rfl,HA,HJ1,BK272,HB⟩ := hcut
  cases kq with
  | zero => exact absurd HA.out (by simp [spec_l22Good.j0])
  | succ kj1 =>
   have H:=HA.out
   clear HA
   simp only [spec_l22Good.j0] at H
   by_cases c12 : x20_1 = true
   ·subst c12
    have H1 : (some false) = some r:=by rw [if_pos rfl] at H;exact H
    clear H
    have H:=H1
    clear H1
    obtain rfl:=Option.some.inj H
    go_wp2
    go_ret
    exact ⟨by rfl,by exact HB.out⟩
   ·replace c12:=Bool.eq_false_iff.mpr c12
    subst c12
    have H1 : (spec_l22Good.l0 kj1 0 a0_0 l0_1 a0_2) = some r:=by rw [if_neg (show ¬ (false = true) by decide)] at H;exact H
    clear H
    have H:=H1
    clear H1
    have H':=Aside0.mk H
    clear H
    go_wp2
    (skip)
    go_loopg [3] kj1 (fun kq v3 w' => ∃ (x3_2 : Int),v3 = .int .i64 x3_2 ∧ Aside0 (spec_l22Good.l0 kq x3_2 a0_0 l0_1 a0_2 = some r) ∧ Aside0 (kq ≤ kj1) ∧ Aside0 (w'.heap[gb272]? = some (.cells #[.int .i64 a0_0,(.slice A0_1 l0_1.length c0_1), .int .i64 a0_2] 38 (0,0))) ∧ Aside0 (Below w.heap.size w w'))
    case atStart => exact ⟨(0),(by rfl),H',⟨Nat.le_refl _⟩,⟨by exact BK272.out⟩,⟨by exact HB.out⟩⟩
    case round =>
     clear H'
     try clear c1
     try clear p2
     try clear c4
     try clear c5
     try clear c7
     try clear c12
     try clear hcz10_0
     try clear hcz10_1
     try clear hcz10_2
     try clear hcz11_0
     try clear hcz11_1
     try clear hcz11_2
     try clear hcz9_0
     try clear hcz9_1
     try clear hcz9_2
     try clear hfz10_0
     try clear hfz10_1
     try clear hfz10_2
     try clear hfz11_0
     try clear hfz11_1
     try clear hfz11_2
     try clear hfz9_0
     try clear hfz9_1
     try clear hfz9_2
     try clear p2
     obtain ⟨x3_2,rfl,HA,HK2,BK272,HB⟩ := hrel
     cases gk with
     | zero => exact absurd HA.out (by simp [spec_l22Good.l0])
     | succ k2 =>
      have H:=HA.out
      clear HA
      simp only [spec_l22Good.l0] at H
      by_cases c13 : x3_2 < (l0_1.length : Int)
      ·rw [if_pos c13] at H
       have c13b0 : decide (x3_2 < (l0_1.length : Int)) = true:=decide_eq_true c13
       clear c13
       by_cases c14 : 0 ≤ x3_2
       ·rw [if_pos c14] at H
        have c14b0 : decide (0 ≤ x3_2) = true:=decide_eq_true c14
        clear c14
        replace H:=Option.bind_eq_some_iff.mp H
        obtain ⟨t277,A150,H⟩ := H
        replace H : (if t277 = true then ((spec_l1In.f ((rd_T51 l0_1 x3_2).f1) 0 10000).bind fun t279 => (if t279 = true then (spec_l22Good.l0 k2 (wrap64 (x3_2 + 1)) a0_0 l0_1 a0_2) else (some false))) else (some false)) = some r:=H
        have A15:=Aside0.mk A150
        clear A150
        by_cases c16 : t277 = true
        ·subst c16
         have H1 : ((spec_l1In.f ((rd_T51 l0_1 x3_2).f1) 0 10000).bind fun t279 => (if t279 = true then (spec_l22Good.l0 k2 (wrap64 (x3_2 + 1)) a0_0 l0_1 a0_2) else (some false))) = some r:=by rw [if_pos rfl] at H;exact H
         clear H
         have H:=H1
         clear H1
         replace H:=Option.bind_eq_some_iff.mp H
         obtain ⟨t279,A170,H⟩ := H
         replace H : (if t279 = true then (spec_l22Good.l0 k2 (wrap64 (x3_2 + 1)) a0_0 l0_1 a0_2) else (some false)) = some r:=H
         have A17:=Aside0.mk A170
         clear A170
         by_cases c18 : t279 = true
         ·subst c18
          have H1 : (spec_l22Good.l0 k2 (wrap64 (x3_2 + 1)) a0_0 l0_1 a0_2) = some r:=by rw [if_pos rfl] at H;exact H
          clear H
          have H:=H1
          clear H1
          have H':=Aside0.mk H
          clear H
          have hcz19_0 : wr.cell? ⟨gb272,0,none⟩ = some (.int .i64 a0_0):=(blk_cell BK272.out 0).trans rfl
          have hcz19_1 : wr.cell? ⟨gb272,1,none⟩ = some (.slice A0_1 l0_1.length c0_1):=(blk_cell BK272.out 1).trans rfl
          have hcz19_2 : wr.cell? ⟨gb272,2,none⟩ = some (.int .i64 a0_2):=(blk_cell BK272.out 2).trans rfl
          have hfz19_0:=blk_frozen BK272.out 0
          have hfz19_1:=blk_frozen BK272.out 1
          have hfz19_2:=blk_frozen BK272.out 2
          have p276 : 0 ≤ (x3_2 : Int):=of_decide_eq_true (by (with_reducible assumption))
          have q276 : x3_2 < (l0_1.length : Int):=of_decide_eq_true (by (with_reducible assumption))
          obtain ⟨ad276,e276,hx276_0,hx276_1⟩ := at_T51 HR0_1.out x3_2 p276 q276
          cases e276
          replace hx276_0:=(HB.out.cell (World.block_lt_of_cell? w _ hx276_0)).trans hx276_0
          replace hx276_1:=(HB.out.cell (World.block_lt_of_cell? w _ hx276_1)).trans hx276_1
          replace p276:=eq_true p276
          replace q276:=eq_true q276
          go_wp2_with (first | ((with_reducible refine gate_callee (f:=41) rfl ?_);refine goesL_ (some 34) rfl rfl Try.func41 (by kernel_rfl) rfl #[.int .i64 ((rd_T51 l0_1 x3_2).f0), .int .i64 1, .int .i64 100] rfl (by (try simp only [List.map_toArray,List.map_cons,List.map_nil]);rfl) ?_;(with_reducible refine (spec_l1In.calls ((rd_T51 l0_1 x3_2).f0) 1 100 true _ A15.out).mono ?_);rintro e w' ⟨rfl,⟨nd,rfl⟩⟩;refine ⟨_,rfl, ?_⟩;have p278 : 0 ≤ (x3_2 : Int):=of_decide_eq_true (by (with_reducible assumption));have q278 : x3_2 < (l0_1.length : Int):=of_decide_eq_true (by (with_reducible assumption));obtain ⟨ad278,e278,hx278_0,hx278_1⟩ := at_T51 HR0_1.out x3_2 p278 q278;obtain rfl : ad276 = ad278:=(by injection e278);replace hx278_0:=(HB.out.cell (World.block_lt_of_cell? w _ hx278_0)).trans hx278_0;replace hx278_1:=(HB.out.cell (World.block_lt_of_cell? w _ hx278_1)).trans hx278_1;replace p278:=eq_true p278;replace q278:=eq_true q278) | (go_at_call 41;(with_reducible refine (spec_l1In.calls ((rd_T51 l0_1 x3_2).f1) 0 10000 true _ A17.out).mono ?_);rintro e w' ⟨rfl,⟨nd,rfl⟩⟩))
          go_roundg k2
          case measure => have:=HJ1.out;have:=HK2.out;omega
          case rel => exact ⟨(wrap64 (x3_2 + 1)),(by rfl),H',⟨by have:=HJ1.out;have:=HK2.out;omega⟩,⟨by (with_reducible repeat (refine blk_drewN ?_ _));exact BK272.out⟩,⟨by repeat ((with_reducible first | exact HB.out | apply pw_below_drewN))⟩⟩
         ·replace c18:=Bool.eq_false_iff.mpr c18
          subst c18
          have H1 : (some false) = some r:=by rw [if_neg (show ¬ (false = true) by decide)] at H;exact H
          clear H
          have H:=H1
          clear H1
          obtain rfl:=Option.some.inj H
          have hcz20_0 : wr.cell? ⟨gb272,0,none⟩ = some (.int .i64 a0_0):=(blk_cell BK272.out 0).trans rfl
          have hcz20_1 : wr.cell? ⟨gb272,1,none⟩ = some (.slice A0_1 l0_1.length c0_1):=(blk_cell BK272.out 1).trans rfl
          have hcz20_2 : wr.cell? ⟨gb272,2,none⟩ = some (.int .i64 a0_2):=(blk_cell BK272.out 2).trans rfl
          have hfz20_0:=blk_frozen BK272.out 0
          have hfz20_1:=blk_frozen BK272.out 1
          have hfz20_2:=blk_frozen BK272.out 2
          have p276 : 0 ≤ (x3_2 : Int):=of_decide_eq_true (by (with_reducible assumption))
          have q276 : x3_2 < (l0_1.length : Int):=of_decide_eq_true (by (with_reducible assumption))
          obtain ⟨ad276,e276,hx276_0,hx276_1⟩ := at_T51 HR0_1.out x3_2 p276 q276
          cases e276
          replace hx276_0:=(HB.out.cell (World.block_lt_of_cell? w _ hx276_0)).trans hx276_0
          replace hx276_1:=(HB.out.cell (World.block_lt_of_cell? w _ hx276_1)).trans hx276_1
          replace p276:=eq_true p276
          replace q276:=eq_true q276
          go_wp2_with (first | ((with_reducible refine gate_callee (f:=41) rfl ?_);refine goesL_ (some 34) rfl rfl Try.func41 (by kernel_rfl) rfl #[.int .i64 ((rd_T51 l0_1 x3_2).f0), .int .i64 1, .int .i64 100] rfl (by (try simp only [List.map_toArray,List.map_cons,List.map_nil]);rfl) ?_;(with_reducible refine (spec_l1In.calls ((rd_T51 l0_1 x3_2).f0) 1 100 true _ A15.out).mono ?_);rintro e w' ⟨rfl,⟨nd,rfl⟩⟩;refine ⟨_,rfl, ?_⟩;have p278 : 0 ≤ (x3_2 : Int):=of_decide_eq_true (by (with_reducible assumption));have q278 : x3_2 < (l0_1.length : Int):=of_decide_eq_true (by (with_reducible assumption));obtain ⟨ad278,e278,hx278_0,hx278_1⟩ := at_T51 HR0_1.out x3_2 p278 q278;obtain rfl : ad276 = ad278:=(by injection e278);replace hx278_0:=(HB.out.cell (World.block_lt_of_cell? w _ hx278_0)).trans hx278_0;replace hx278_1:=(HB.out.cell (World.block_lt_of_cell? w _ hx278_1)).trans hx278_1;replace p278:=eq_true p278;replace q278:=eq_true q278) | (go_at_call 41;(with_reducible refine (spec_l1In.calls ((rd_T51 l0_1 x3_2).f1) 0 10000 false _ A17.out).mono ?_);rintro e w' ⟨rfl,⟨nd,rfl⟩⟩))
          go_ret
          exact ⟨by rfl,by repeat ((with_reducible first | exact HB.out | apply pw_below_drewN))⟩
        ·replace c16:=Bool.eq_false_iff.mpr c16
         subst c16
         have H1 : (some false) = some r:=by rw [if_neg (show ¬ (false = true) by decide)] at H;exact H
         clear H
         have H:=H1
         clear H1
         obtain rfl:=Option.some.inj H
         have hcz21_0 : wr.cell? ⟨gb272,0,none⟩ = some (.int .i64 a0_0):=(blk_cell BK272.out 0).trans rfl
         have hcz21_1 : wr.cell? ⟨gb272,1,none⟩ = some (.slice A0_1 l0_1.length c0_1):=(blk_cell BK272.out 1).trans rfl
         have hcz21_2 : wr.cell? ⟨gb272,2,none⟩ = some (.int .i64 a0_2):=(blk_cell BK272.out 2).trans rfl
         have hfz21_0:=blk_frozen BK272.out 0
         have hfz21_1:=blk_frozen BK272.out 1
         have hfz21_2:=blk_frozen BK272.out 2
         have p276 : 0 ≤ (x3_2 : Int):=of_decide_eq_true (by (with_reducible assumption))
         have q276 : x3_2 < (l0_1.length : Int):=of_decide_eq_true (by (with_reducible assumption))
         obtain ⟨ad276,e276,hx276_0,hx276_1⟩ := at_T51 HR0_1.out x3_2 p276 q276
         cases e276
         replace hx276_0:=(HB.out.cell (World.block_lt_of_cell? w _ hx276_0)).trans hx276_0
         replace hx276_1:=(HB.out.cell (World.block_lt_of_cell? w _ hx276_1)).trans hx276_1
         replace p276:=eq_true p276
         replace q276:=eq_true q276
         go_wp2_with (((with_reducible refine gate_callee (f:=41) rfl ?_);refine goesL_ (some 34) rfl rfl Try.func41 (by kernel_rfl) rfl #[.int .i64 ((rd_T51 l0_1 x3_2).f0), .int .i64 1, .int .i64 100] rfl (by (try simp only [List.map_toArray,List.map_cons,List.map_nil]);rfl) ?_;(with_reducible refine (spec_l1In.calls ((rd_T51 l0_1 x3_2).f0) 1 100 false _ A15.out).mono ?_);rintro e w' ⟨rfl,⟨nd,rfl⟩⟩;refine ⟨_,rfl, ?_⟩))
         go_ret
         exact ⟨by rfl,by repeat ((with_reducible first | exact HB.out | apply pw_below_drewN))⟩
       ·rw [if_neg c14] at H
        exact absurd H (by simp)
      ·rw [if_neg c13] at H
       have c13b0 : decide (x3_2 < (l0_1.length : Int)) = false:=decide_eq_false c13
       clear c13
       obtain rfl:=Option.some.inj H
       have hcz22_0 : wr.cell? ⟨gb272,0,none⟩ = some (.int .i64 a0_0):=(blk_cell BK272.out 0).trans rfl
       have hcz22_1 : wr.cell? ⟨gb272,1,none⟩ = some (.slice A0_1 l0_1.length c0_1):=(blk_cell BK272.out 1).trans rfl
       have hcz22_2 : wr.cell? ⟨gb272,2,none⟩ = some (.int .i64 a0_2):=(blk_cell BK272.out 2).trans rfl
       have hfz22_0:=blk_frozen BK272.out 0
       have hfz22_1:=blk_frozen BK272.out 1
       have hfz22_2:=blk_frozen BK272.out 2
       go_wp2
       go_ret
       exact ⟨by rfl,by exact HB.out⟩

/-! ### spec_l22Asked: function 48 -/
def spec_l22Asked.f (k : Nat) (a0_0 : Int) (l0_1 : List (S51)) (a0_2 : Int) (a1 : Int) (a2 : Int) : Option (Bool):=(spec_l22Good.f k a0_0 l0_1 a0_2).bind fun t281 => (if t281 = true then ((spec_l1In.f a1 1 2).bind fun t282 => (if t282 = true then ((spec_l1In.f a2 0 400).bind fun t283 => (some t283)) else (some false))) else (some false))
theorem spec_l22Asked.mono : ∀ a0 a1 a2 a3 a4 k,LeO (spec_l22Asked.f k a0 a1 a2 a3 a4) (spec_l22Asked.f (k + 1) a0 a1 a2 a3 a4):=by
 intro a0 a1 a2 a3 a4 k
 unfold spec_l22Asked.f
 repeat' first
   | (with_reducible exact spec_l22Good.mono _ _ _ _)
   | (with_reducible exact LeO.refl _)
   | (with_reducible exact LeO.none _)
   | (with_reducible refine LeO.ite ?_ ?_)
   | (with_reducible refine LeO.bind ?_ (fun _ => ?_))
   | exact spec_l22Good.mono _ _ _ _
   | exact LeO.none _
   | refine LeO.ite ?_ ?_
   | refine LeO.bind ?_ (fun _ => ?_)
set_option maxHeartbeats 8000000 in
set_option maxRecDepth 100000 in
theorem spec_l22Asked.calls (k : Nat) (a0_0 : Int) (A0_1 : Option Addr) (c0_1 : Nat) (l0_1 : List (S51)) (a0_2 : Int) (a1 : Int) (a2 : Int) (r : Bool) (w : World) (hr0_1 : Kd.C k51 w A0_1 l0_1.length l0_1) (hc0_1 : l0_1.length ≤ c0_1) (h : spec_l22Asked.f k a0_0 l0_1 a0_2 a1 a2 = some r) :
  Calls Try.prog 48 #[.agg #[.int .i64 a0_0, .slice A0_1 l0_1.length c0_1, .int .i64 a0_2], .int .i64 a1, .int .i64 a2] w fun e w' => e = .returned (.bool r) ∧ Below w.heap.size w w':=by
 have hu38:=Try.underlying38
 have HR0_1:=Aside0.mk hr0_1
 have HC0_1:=Aside0.mk hc0_1
 clear hr0_1 hc0_1
 have HB:=Aside0.mk (Below.refl w.heap.size w)
 have H : ((spec_l22Good.f k a0_0 l0_1 a0_2).bind fun t281 => (if t281 = true then ((spec_l1In.f a1 1 2).bind fun t282 => (if t282 = true then ((spec_l1In.f a2 0 400).bind fun t283 => (some t283)) else (some false))) else (some false))) = some r:=h
 clear h
 replace H:=Option.bind_eq_some_iff.mp H
 obtain ⟨t281,A40,H⟩ := H
 replace H : (if t281 = true then ((spec_l1In.f a1 1 2).bind fun t282 => (if t282 = true then ((spec_l1In.f a2 0 400).bind fun t283 => (some t283)) else (some false))) else (some false)) = some r:=H
 have A4:=Aside0.mk A40
 clear A40
 by_cases c5 : t281 = true
 ·subst c5
  have H1 : ((spec_l1In.f a1 1 2).bind fun t282 => (if t282 = true then ((spec_l1In.f a2 0 400).bind fun t283 => (some t283)) else (some false))) = some r:=by rw [if_pos rfl] at H;exact H
  clear H
  have H:=H1
  clear H1
  replace H:=Option.bind_eq_some_iff.mp H
  obtain ⟨t282,A60,H⟩ := H
  replace H : (if t282 = true then ((spec_l1In.f a2 0 400).bind fun t283 => (some t283)) else (some false)) = some r:=H
  have A6:=Aside0.mk A60
  clear A60
  by_cases c7 : t282 = true
  ·subst c7
   have H1 : ((spec_l1In.f a2 0 400).bind fun t283 => (some t283)) = some r:=by rw [if_pos rfl] at H;exact H
   clear H
   have H:=H1
   clear H1
   replace H:=Option.bind_eq_some_iff.mp H
   obtain ⟨t283,A80,H⟩ := H
   replace H : (some t283) = some r:=H
   have A8:=Aside0.mk A80
   clear A80
   obtain rfl:=Option.some.inj H
   go_enter Try.func48,Try.ntmps48
   go_wp2_with (first | ((with_reducible refine gate_dst (N:=3) rfl ?_);refine box_event ?hg (N:=3) ?hd (cs:=#[.int .i64 a0_0, .slice A0_1 l0_1.length c0_1, .int .i64 a0_2]) (t:=38) ?hr ?_;(case hd => rfl);(case hg => rfl);(case hr => (go_simp;done));intro gb280 hg w9 hbox hb;have n0_:=Aside0.mk (below_step (by exact HB.out) hb);have n1_:=Aside0.mk (hbox);have n2_:=Aside0.mk ((by rw [hg];exact (below_size (by exact HB.out)) : w.heap.size ≤ gb280));have n3_:=Aside0.mk ((by rw [hg];exact (below_size (by exact HB.out)) : w.heap.size ≤ gb280));clear HB;have HB:=n0_;have BK280:=n1_;have GW280:=n2_;have GE280:=n3_;clear n0_ n1_ n2_ n3_;clear hb hbox hg;have hcz10_0 : w9.cell? ⟨gb280,0,none⟩ = some (.int .i64 a0_0):=(blk_cell BK280.out 0).trans rfl;have hcz10_1 : w9.cell? ⟨gb280,1,none⟩ = some (.slice A0_1 l0_1.length c0_1):=(blk_cell BK280.out 1).trans rfl;have hcz10_2 : w9.cell? ⟨gb280,2,none⟩ = some (.int .i64 a0_2):=(blk_cell BK280.out 2).trans rfl;have hfz10_0:=blk_frozen BK280.out 0;have hfz10_1:=blk_frozen BK280.out 1;have hfz10_2:=blk_frozen BK280.out 2) | ((with_reducible refine gate_callee (f:=54) rfl ?_);refine goesL_ (some 8) rfl rfl Try.func54 (by kernel_rfl) rfl #[.agg #[.int .i64 a0_0, .slice A0_1 l0_1.length c0_1, .int .i64 a0_2]] rfl (by (try simp only [List.map_toArray,List.map_cons,List.map_nil]);rfl) ?_;(with_reducible refine (spec_l22Good.calls k a0_0 _ _ l0_1 a0_2 true _ ?side1 ?side2 A4.out).mono ?_);(case side1 => repeat (exact (Kd.C_below HR0_1.out HB.out)));(case side2 => exact HC0_1.out);rintro e w11 ⟨rfl,hb⟩;refine ⟨_,rfl, ?_⟩;have n0_:=Aside0.mk (blk_below (g:=gb280) (o := .cells #[.int .i64 a0_0, .slice A0_1 l0_1.length c0_1, .int .i64 a0_2] 38 (0,0)) (by exact BK280.out) hb);have n1_:=Aside0.mk (below_step (by exact HB.out) hb);clear BK280;clear HB;have BK280:=n0_;have HB:=n1_;clear n0_ n1_;(try clear hb)) | (go_at_call 41;(with_reducible refine (spec_l1In.calls a1 1 2 true _ A6.out).mono ?_);rintro e w' ⟨rfl,⟨nd,rfl⟩⟩) | (go_at_call 41;(with_reducible refine (spec_l1In.calls a2 0 400 t283 _ A8.out).mono ?_);rintro e w' ⟨rfl,⟨nd,rfl⟩⟩))
   go_ret
   exact ⟨by rfl,by repeat ((with_reducible first | exact HB.out | apply pw_below_drewN))⟩
  ·replace c7:=Bool.eq_false_iff.mpr c7
   subst c7
   have H1 : (some false) = some r:=by rw [if_neg (show ¬ (false = true) by decide)] at H;exact H
   clear H
   have H:=H1
   clear H1
   obtain rfl:=Option.some.inj H
   go_enter Try.func48,Try.ntmps48
   go_wp2_with (first | ((with_reducible refine gate_dst (N:=3) rfl ?_);refine box_event ?hg (N:=3) ?hd (cs:=#[.int .i64 a0_0, .slice A0_1 l0_1.length c0_1, .int .i64 a0_2]) (t:=38) ?hr ?_;(case hd => rfl);(case hg => rfl);(case hr => (go_simp;done));intro gb280 hg w12 hbox hb;have n0_:=Aside0.mk (below_step (by exact HB.out) hb);have n1_:=Aside0.mk (hbox);have n2_:=Aside0.mk ((by rw [hg];exact (below_size (by exact HB.out)) : w.heap.size ≤ gb280));have n3_:=Aside0.mk ((by rw [hg];exact (below_size (by exact HB.out)) : w.heap.size ≤ gb280));clear HB;have HB:=n0_;have BK280:=n1_;have GW280:=n2_;have GE280:=n3_;clear n0_ n1_ n2_ n3_;clear hb hbox hg;have hcz13_0 : w12.cell? ⟨gb280,0,none⟩ = some (.int .i64 a0_0):=(blk_cell BK280.out 0).trans rfl;have hcz13_1 : w12.cell? ⟨gb280,1,none⟩ = some (.slice A0_1 l0_1.length c0_1):=(blk_cell BK280.out 1).trans rfl;have hcz13_2 : w12.cell? ⟨gb280,2,none⟩ = some (.int .i64 a0_2):=(blk_cell BK280.out 2).trans rfl;have hfz13_0:=blk_frozen BK280.out 0;have hfz13_1:=blk_frozen BK280.out 1;have hfz13_2:=blk_frozen BK280.out 2) | ((with_reducible refine gate_callee (f:=54) rfl ?_);refine goesL_ (some 8) rfl rfl Try.func54 (by kernel_rfl) rfl #[.agg #[.int .i64 a0_0, .slice A0_1 l0_1.length c0_1, .int .i64 a0_2]] rfl (by (try simp only [List.map_toArray,List.map_cons,List.map_nil]);rfl) ?_;(with_reducible refine (spec_l22Good.calls k a0_0 _ _ l0_1 a0_2 true _ ?side1 ?side2 A4.out).mono ?_);(case side1 => repeat (exact (Kd.C_below HR0_1.out HB.out)));(case side2 => exact HC0_1.out);rintro e w14 ⟨rfl,hb⟩;refine ⟨_,rfl, ?_⟩;have n0_:=Aside0.mk (blk_below (g:=gb280) (o := .cells #[.int .i64 a0_0, .slice A0_1 l0_1.length c0_1, .int .i64 a0_2] 38 (0,0)) (by exact BK280.out) hb);have n1_:=Aside0.mk (below_step (by exact HB.out) hb);clear BK280;clear HB;have BK280:=n0_;have HB:=n1_;clear n0_ n1_;(try clear hb)) | (go_at_call 41;(with_reducible refine (spec_l1In.calls a1 1 2 false _ A6.out).mono ?_);rintro e w' ⟨rfl,⟨nd,rfl⟩⟩))
   go_ret
   exact ⟨by rfl,by repeat ((with_reducible first | exact HB.out | apply pw_below_drewN))⟩
 ·replace c5:=Bool.eq_false_iff.mpr c5
  subst c5
  have H1 : (some false) = some r:=by rw [if_neg (show ¬ (false = true) by decide)] at H;exact H
  clear H
  have H:=H1
  clear H1
  obtain rfl:=Option.some.inj H
  go_enter Try.func48,Try.ntmps48
  go_wp2_with (first | ((with_reducible refine gate_dst (N:=3) rfl ?_);refine box_event ?hg (N:=3) ?hd (cs:=#[.int .i64 a0_0, .slice A0_1 l0_1.length c0_1, .int .i64 a0_2]) (t:=38) ?hr ?_;(case hd => rfl);(case hg => rfl);(case hr => (go_simp;done));intro gb280 hg w15 hbox hb;have n0_:=Aside0.mk (below_step (by exact HB.out) hb);have n1_:=Aside0.mk (hbox);have n2_:=Aside0.mk ((by rw [hg];exact (below_size (by exact HB.out)) : w.heap.size ≤ gb280));have n3_:=Aside0.mk ((by rw [hg];exact (below_size (by exact HB.out)) : w.heap.size ≤ gb280));clear HB;have HB:=n0_;have BK280:=n1_;have GW280:=n2_;have GE280:=n3_;clear n0_ n1_ n2_ n3_;clear hb hbox hg;have hcz16_0 : w15.cell? ⟨gb280,0,none⟩ = some (.int .i64 a0_0):=(blk_cell BK280.out 0).trans rfl;have hcz16_1 : w15.cell? ⟨gb280,1,none⟩ = some (.slice A0_1 l0_1.length c0_1):=(blk_cell BK280.out 1).trans rfl;have hcz16_2 : w15.cell? ⟨gb280,2,none⟩ = some (.int .i64 a0_2):=(blk_cell BK280.out 2).trans rfl;have hfz16_0:=blk_frozen BK280.out 0;have hfz16_1:=blk_frozen BK280.out 1;have hfz16_2:=blk_frozen BK280.out 2) | ((with_reducible refine gate_callee (f:=54) rfl ?_);refine goesL_ (some 8) rfl rfl Try.func54 (by kernel_rfl) rfl #[.agg #[.int .i64 a0_0, .slice A0_1 l0_1.length c0_1, .int .i64 a0_2]] rfl (by (try simp only [List.map_toArray,List.map_cons,List.map_nil]);rfl) ?_;(with_reducible refine (spec_l22Good.calls k a0_0 _ _ l0_1 a0_2 false _ ?side1 ?side2 A4.out).mono ?_);(case side1 => repeat (exact (Kd.C_below HR0_1.out HB.out)));(case side2 => exact HC0_1.out);rintro e w17 ⟨rfl,hb⟩;refine ⟨_,rfl, ?_⟩;have n0_:=Aside0.mk (blk_below (g:=gb280) (o := .cells #[.int .i64 a0_0, .slice A0_1 l0_1.length c0_1, .int .i64 a0_2] 38 (0,0)) (by exact BK280.out) hb);have n1_:=Aside0.mk (below_step (by exact HB.out) hb);clear BK280;clear HB;have BK280:=n0_;have HB:=n1_;clear n0_ n1_;(try clear hb)))
  go_ret
  exact ⟨by rfl,by exact HB.out⟩

end Go.Proofs.Ytafdafmoiocjgaa.PFnCharges
