-- Written by a program of this session, over the kit's print (wip/xprint.py)
import Derived.Test.YthfbnadlpninaaaPFnExactMoveToWagonx0
import Derived.Test.YthfbnadlpninaaaPFnExactMoveToWagonx6
import Derived.Test.YthfbnadlpninaaaPFnExactMoveToWagonx8
import Derived.Test.YthfbnadlpninaaaPFnExactMoveToWagonx9
namespace Go.Proofs.Ythfbnadlpninaaa.PFnExactMoveToWagon
open Go.RowKit Go.Proofs.YthfbnadlpninaaaW.PrintWords Go.Proofs.YthfbnadlpninaaaW.PrintLast Go.Proofs.YthfbnadlpninaaaW.PrintMore
attribute [local go_sem] max2_int min2_int max_two min_two max_three min_three max_four min_four   -- for this text's walks alone
set_option linter.unusedVariables false
set_option linter.unusedSimpArgs false

/-! ### impl_IsValidLoading: function 24 -/
def impl_IsValidLoading.j0 : Nat → List (S64) → List Int → Bool → List (S70) → Option (Bool)
 | 0,_,_,_,_ => none
 | k + 1,x1,x2,x21,x264000 => if x21 = true then (some false) else ((slices_ContainsFunc_int.f k x2 x264000).bind fun t266 => (if t266 = true then (some false) else ((impl_isLoaded.f k x264000 x1 x2).bind fun t267 => (some t267))))
def impl_IsValidLoading.f (k : Nat) (l0 : List (S70)) (l1 : List (S64)) (l2 : List Int) : Option (Bool):=(impl_IsValidTrain.f k l0).bind fun t264 => (if t264 = true then ((impl_IsValidContainers.f k l1).bind fun t265 => (if t265 = true then (impl_IsValidLoading.j0 k l1 l2 ((l2.length : Int) != (l1.length : Int)) l0) else (impl_IsValidLoading.j0 k l1 l2 true l0))) else (impl_IsValidLoading.j0 k l1 l2 true l0))
theorem impl_IsValidLoading.mono_l : ∀ k,(∀ y0 y1 y2 y3,LeO (impl_IsValidLoading.j0 k y0 y1 y2 y3) (impl_IsValidLoading.j0 (k + 1) y0 y1 y2 y3))
 | 0 => fun _ _ _ _ r h => by simp [impl_IsValidLoading.j0] at h
 | k + 1 => by
  have ih0:=impl_IsValidLoading.mono_l k
  ·intro y0 y1 y2 y3
   unfold impl_IsValidLoading.j0
   repeat' first
   | (with_reducible exact ih0 _ _ _ _)
   | (with_reducible exact impl_IsValidContainers.mono _ _)
   | (with_reducible exact impl_IsValidTrain.mono _ _)
   | (with_reducible exact impl_isLoaded.mono _ _ _ _)
   | (with_reducible exact slices_ContainsFunc_int.mono _ _ _)
   | (with_reducible exact LeO.refl _)
   | (with_reducible exact LeO.none _)
   | (with_reducible refine LeO.ite ?_ ?_)
   | (with_reducible refine LeO.bind ?_ (fun _ => ?_))
   | exact ih0 _ _ _ _
   | exact impl_IsValidContainers.mono _ _
   | exact impl_IsValidTrain.mono _ _
   | exact impl_isLoaded.mono _ _ _ _
   | exact slices_ContainsFunc_int.mono _ _ _
   | exact LeO.none _
   | refine LeO.ite ?_ ?_
   | refine LeO.bind ?_ (fun _ => ?_)
theorem impl_IsValidLoading.mono : ∀ a0 a1 a2 k,LeO (impl_IsValidLoading.f k a0 a1 a2) (impl_IsValidLoading.f (k + 1) a0 a1 a2):=by
 intro a0 a1 a2 k
 have ih0:=impl_IsValidLoading.mono_l k
 unfold impl_IsValidLoading.f
 repeat' first
   | (with_reducible exact ih0 _ _ _ _)
   | (with_reducible exact impl_IsValidContainers.mono _ _)
   | (with_reducible exact impl_IsValidTrain.mono _ _)
   | (with_reducible exact impl_isLoaded.mono _ _ _ _)
   | (with_reducible exact slices_ContainsFunc_int.mono _ _ _)
   | (with_reducible exact LeO.refl _)
   | (with_reducible exact LeO.none _)
   | (with_reducible refine LeO.ite ?_ ?_)
   | (with_reducible refine LeO.bind ?_ (fun _ => ?_))
   | exact ih0 _ _ _ _
   | exact impl_IsValidContainers.mono _ _
   | exact impl_IsValidTrain.mono _ _
   | exact impl_isLoaded.mono _ _ _ _
   | exact slices_ContainsFunc_int.mono _ _ _
   | exact LeO.none _
   | refine LeO.ite ?_ ?_
   | refine LeO.bind ?_ (fun _ => ?_)
set_option maxHeartbeats 8000000 in
set_option maxRecDepth 100000 in
theorem impl_IsValidLoading.calls (k : Nat) (A0 : Option Addr) (c0 : Nat) (l0 : List (S70)) (A1 : Option Addr) (c1 : Nat) (l1 : List (S64)) (A2 : Option Addr) (c2 : Nat) (l2 : List Int) (r : Bool) (w : World) (hr0 : Kd.C k70 w A0 l0.length l0) (hc0 : l0.length ≤ c0) (hr1 : Kd.C k64 w A1 l1.length l1) (hc1 : l1.length ≤ c1) (hr2 : Kd.C (Kd.int .i64) w A2 l2.length l2) (hc2 : l2.length ≤ c2) (h : impl_IsValidLoading.f k l0 l1 l2 = some r) :
  Calls Try.prog 24 #[.slice A0 l0.length c0, .slice A1 l1.length c1, .slice A2 l2.length c2] w fun e w' => e = .returned (.bool r) ∧ Below w.heap.size w w':=by
 have HR0:=Aside0.mk hr0
 have HC0:=Aside0.mk hc0
 clear hr0 hc0
 have HR1:=Aside0.mk hr1
 have HC1:=Aside0.mk hc1
 clear hr1 hc1
 have HR2:=Aside0.mk hr2
 have HC2:=Aside0.mk hc2
 clear hr2 hc2
 have HB:=Aside0.mk (Below.refl w.heap.size w)
 have H : ((impl_IsValidTrain.f k l0).bind fun t264 => (if t264 = true then ((impl_IsValidContainers.f k l1).bind fun t265 => (if t265 = true then (impl_IsValidLoading.j0 k l1 l2 ((l2.length : Int) != (l1.length : Int)) l0) else (impl_IsValidLoading.j0 k l1 l2 true l0))) else (impl_IsValidLoading.j0 k l1 l2 true l0))) = some r:=h
 clear h
 have HC4:=Aside0.mk H
 clear H
 go_enter Try.func24,Try.ntmps24
 go_upto_region 1 with (first | ((with_reducible refine gate_dst (N:=3) rfl ?_);(try (refine gate_guard (by rfl) ?_;dsimp only));refine box_event ?hg (N:=3) ?hd (cs:=#[.slice A0 l0.length c0]) (t:=25) ?hr ?_;(case hd => rfl);(case hg => rfl);(case hr => first | (go_simp;done) | (go_simp;rfl));intro gb263 hg w5 hbox hb;have n0_:=Aside0.mk (below_step (by repeat (first | (with_reducible first | exact HB.out | apply below_alloc | apply pw_below_drewN | apply below_drew1) | exact HB.out)) hb);have n1_:=Aside0.mk (hbox);have n2_:=Aside0.mk ((by rw [hg];exact (below_size (by repeat (first | (with_reducible first | exact HB.out | apply below_alloc | apply pw_below_drewN | apply below_drew1) | exact HB.out))) : w.heap.size ≤ gb263));have n3_:=Aside0.mk ((by rw [hg];exact (below_size (by repeat (first | (with_reducible first | exact HB.out | apply below_alloc | apply pw_below_drewN | apply below_drew1) | exact HB.out))) : w.heap.size ≤ gb263));clear HB;have HB:=n0_;have BK263:=n1_;have GW263:=n2_;have GE263:=n3_;clear n0_ n1_ n2_ n3_;clear hb hbox hg))
 (try simp only [Act.put,sA_,s0_,s1_])
 go_cut [21] (fun v21 wc => ∃ (kq : Nat) (x21_3 : Bool),v21 = .bool x21_3 ∧ Aside0 (impl_IsValidLoading.j0 kq l1 l2 x21_3 l0 = some r) ∧ Aside0 (kq ≤ k) ∧ Aside0 (wc.heap[gb263]? = some (.cells #[(.slice A0 l0.length c0)] 25 (0,0))) ∧ Aside0 (Below w.heap.size w wc))
 case first =>
  have H:=HC4.out
  clear HC4
  replace H:=Option.bind_eq_some_iff.mp H
  obtain ⟨t264,A60,H⟩ := H
  replace H : (if t264 = true then ((impl_IsValidContainers.f k l1).bind fun t265 => (if t265 = true then (impl_IsValidLoading.j0 k l1 l2 ((l2.length : Int) != (l1.length : Int)) l0) else (impl_IsValidLoading.j0 k l1 l2 true l0))) else (impl_IsValidLoading.j0 k l1 l2 true l0)) = some r:=H
  have A6:=Aside0.mk A60
  clear A60
  by_cases c7 : t264 = true
  ·subst c7
   have H1 : ((impl_IsValidContainers.f k l1).bind fun t265 => (if t265 = true then (impl_IsValidLoading.j0 k l1 l2 ((l2.length : Int) != (l1.length : Int)) l0) else (impl_IsValidLoading.j0 k l1 l2 true l0))) = some r:=by rw [if_pos rfl] at H;exact H
   clear H
   have H:=H1
   clear H1
   replace H:=Option.bind_eq_some_iff.mp H
   obtain ⟨t265,A80,H⟩ := H
   replace H : (if t265 = true then (impl_IsValidLoading.j0 k l1 l2 ((l2.length : Int) != (l1.length : Int)) l0) else (impl_IsValidLoading.j0 k l1 l2 true l0)) = some r:=H
   have A8:=Aside0.mk A80
   clear A80
   by_cases c9 : t265 = true
   ·subst c9
    have H1 : (impl_IsValidLoading.j0 k l1 l2 ((l2.length : Int) != (l1.length : Int)) l0) = some r:=by rw [if_pos rfl] at H;exact H
    clear H
    have H:=H1
    clear H1
    have H':=Aside0.mk H
    clear H
    have hcz10_0 : w5.cell? ⟨gb263,0,none⟩ = some (.slice A0 l0.length c0):=(blk_cell BK263.out 0).trans rfl
    have hfz10_0:=blk_frozen BK263.out 0
    go_wp2_with (first | ((with_reducible refine gate_callee (f:=18) rfl ?_);refine goesL_ (some 8) rfl rfl Try.func18 (by kernel_rfl) rfl #[.slice A0 l0.length c0] rfl (by (try simp only [List.map_toArray,List.map_cons,List.map_nil]);first | done | rfl | (simp only [List.length_drop,List.length_take];rfl)) ?_;(with_reducible refine (impl_IsValidTrain.calls k _ _ l0 true _ ?side1 ?side2 A6.out).mono ?_);(case side1 => repeat (first | exact (Kd.C_below HR0.out HB.out) | (with_reducible refine Kd.C_alloc ?_ _) | (with_reducible refine Kd.C_drewN ?_ _) | (with_reducible refine Kd.C_drew ?_)));(case side2 => exact HC0.out);rintro e w11 ⟨rfl,hb⟩;refine ⟨_,rfl, ?_⟩;have n0_:=Aside0.mk (blk_below (g:=gb263) (o := .cells #[.slice A0 l0.length c0] 25 (0,0)) (by (with_reducible repeat (first | refine blk_drewN ?_ _ | refine blk_drew ?_ | refine blk_alloc ?_ _));exact BK263.out) hb);have n1_:=Aside0.mk (below_step (by repeat (first | (with_reducible first | exact HB.out | apply below_alloc | apply pw_below_drewN | apply below_drew1 | refine below_set ?_ GE263.out) | exact HB.out)) hb);clear BK263;clear HB;have BK263:=n0_;have HB:=n1_;clear n0_ n1_;(try clear hb);(try clear hb2);(try clear hk);(try clear hi)) | (go_at_call 69;(with_reducible refine (impl_IsValidContainers.calls k _ _ l1 true _ ?side1 ?side2 A8.out).mono ?_);(case side1 => repeat (first | exact (Kd.C_below HR1.out HB.out) | (with_reducible refine Kd.C_alloc ?_ _) | (with_reducible refine Kd.C_drewN ?_ _) | (with_reducible refine Kd.C_drew ?_)));(case side2 => exact HC1.out);rintro e w12 ⟨rfl,hb⟩;have n0_:=Aside0.mk (blk_below (g:=gb263) (o := .cells #[.slice A0 l0.length c0] 25 (0,0)) (by (with_reducible repeat (first | refine blk_drewN ?_ _ | refine blk_drew ?_ | refine blk_alloc ?_ _));exact BK263.out) hb);have n1_:=Aside0.mk (below_step (by repeat (first | (with_reducible first | exact HB.out | apply below_alloc | apply pw_below_drewN | apply below_drew1 | refine below_set ?_ GE263.out) | exact HB.out)) hb);clear BK263;clear HB;have BK263:=n0_;have HB:=n1_;clear n0_ n1_;(try clear hb);(try clear hb2);(try clear hk);(try clear hi)))
    go_meet
    case rel => exact ⟨_,(((l2.length : Int) != (l1.length : Int))),(by first | rfl | (simp;done) | (simp [*];done)),H',⟨by first | omega | exact Nat.le_refl _⟩,⟨by (with_reducible repeat (first | refine blk_drewN ?_ _ | refine blk_drew ?_ | refine blk_alloc ?_ _));exact BK263.out⟩,⟨by repeat (first | (with_reducible first | exact HB.out | apply below_alloc | apply pw_below_drewN | apply below_drew1 | refine below_set ?_ GE263.out) | exact HB.out)⟩⟩
   ·replace c9:=Bool.eq_false_iff.mpr c9
    subst c9
    have H1 : (impl_IsValidLoading.j0 k l1 l2 true l0) = some r:=by rw [if_neg (show ¬ (false = true) by decide)] at H;exact H
    clear H
    have H:=H1
    clear H1
    have H':=Aside0.mk H
    clear H
    have hcz13_0 : w5.cell? ⟨gb263,0,none⟩ = some (.slice A0 l0.length c0):=(blk_cell BK263.out 0).trans rfl
    have hfz13_0:=blk_frozen BK263.out 0
    go_wp2_with (first | ((with_reducible refine gate_callee (f:=18) rfl ?_);refine goesL_ (some 8) rfl rfl Try.func18 (by kernel_rfl) rfl #[.slice A0 l0.length c0] rfl (by (try simp only [List.map_toArray,List.map_cons,List.map_nil]);first | done | rfl | (simp only [List.length_drop,List.length_take];rfl)) ?_;(with_reducible refine (impl_IsValidTrain.calls k _ _ l0 true _ ?side1 ?side2 A6.out).mono ?_);(case side1 => repeat (first | exact (Kd.C_below HR0.out HB.out) | (with_reducible refine Kd.C_alloc ?_ _) | (with_reducible refine Kd.C_drewN ?_ _) | (with_reducible refine Kd.C_drew ?_)));(case side2 => exact HC0.out);rintro e w14 ⟨rfl,hb⟩;refine ⟨_,rfl, ?_⟩;have n0_:=Aside0.mk (blk_below (g:=gb263) (o := .cells #[.slice A0 l0.length c0] 25 (0,0)) (by (with_reducible repeat (first | refine blk_drewN ?_ _ | refine blk_drew ?_ | refine blk_alloc ?_ _));exact BK263.out) hb);have n1_:=Aside0.mk (below_step (by repeat (first | (with_reducible first | exact HB.out | apply below_alloc | apply pw_below_drewN | apply below_drew1 | refine below_set ?_ GE263.out) | exact HB.out)) hb);clear BK263;clear HB;have BK263:=n0_;have HB:=n1_;clear n0_ n1_;(try clear hb);(try clear hb2);(try clear hk);(try clear hi)) | (go_at_call 69;(with_reducible refine (impl_IsValidContainers.calls k _ _ l1 false _ ?side1 ?side2 A8.out).mono ?_);(case side1 => repeat (first | exact (Kd.C_below HR1.out HB.out) | (with_reducible refine Kd.C_alloc ?_ _) | (with_reducible refine Kd.C_drewN ?_ _) | (with_reducible refine Kd.C_drew ?_)));(case side2 => exact HC1.out);rintro e w15 ⟨rfl,hb⟩;have n0_:=Aside0.mk (blk_below (g:=gb263) (o := .cells #[.slice A0 l0.length c0] 25 (0,0)) (by (with_reducible repeat (first | refine blk_drewN ?_ _ | refine blk_drew ?_ | refine blk_alloc ?_ _));exact BK263.out) hb);have n1_:=Aside0.mk (below_step (by repeat (first | (with_reducible first | exact HB.out | apply below_alloc | apply pw_below_drewN | apply below_drew1 | refine below_set ?_ GE263.out) | exact HB.out)) hb);clear BK263;clear HB;have BK263:=n0_;have HB:=n1_;clear n0_ n1_;(try clear hb);(try clear hb2);(try clear hk);(try clear hi)))
    go_meet
    case rel => exact ⟨_,(true),(by first | rfl | (simp;done) | (simp [*];done)),H',⟨by first | omega | exact Nat.le_refl _⟩,⟨by (with_reducible repeat (first | refine blk_drewN ?_ _ | refine blk_drew ?_ | refine blk_alloc ?_ _));exact BK263.out⟩,⟨by repeat (first | (with_reducible first | exact HB.out | apply below_alloc | apply pw_below_drewN | apply below_drew1 | refine below_set ?_ GE263.out) | exact HB.out)⟩⟩
  ·replace c7:=Bool.eq_false_iff.mpr c7
   subst c7
   have H1 : (impl_IsValidLoading.j0 k l1 l2 true l0) = some r:=by rw [if_neg (show ¬ (false = true) by decide)] at H;exact H
   clear H
   have H:=H1
   clear H1
   have H':=Aside0.mk H
   clear H
   have hcz16_0 : w5.cell? ⟨gb263,0,none⟩ = some (.slice A0 l0.length c0):=(blk_cell BK263.out 0).trans rfl
   have hfz16_0:=blk_frozen BK263.out 0
   go_wp2_with (first | ((with_reducible refine gate_callee (f:=18) rfl ?_);refine goesL_ (some 8) rfl rfl Try.func18 (by kernel_rfl) rfl #[.slice A0 l0.length c0] rfl (by (try simp only [List.map_toArray,List.map_cons,List.map_nil]);first | done | rfl | (simp only [List.length_drop,List.length_take];rfl)) ?_;(with_reducible refine (impl_IsValidTrain.calls k _ _ l0 false _ ?side1 ?side2 A6.out).mono ?_);(case side1 => repeat (first | exact (Kd.C_below HR0.out HB.out) | (with_reducible refine Kd.C_alloc ?_ _) | (with_reducible refine Kd.C_drewN ?_ _) | (with_reducible refine Kd.C_drew ?_)));(case side2 => exact HC0.out);rintro e w17 ⟨rfl,hb⟩;refine ⟨_,rfl, ?_⟩;have n0_:=Aside0.mk (blk_below (g:=gb263) (o := .cells #[.slice A0 l0.length c0] 25 (0,0)) (by (with_reducible repeat (first | refine blk_drewN ?_ _ | refine blk_drew ?_ | refine blk_alloc ?_ _));exact BK263.out) hb);have n1_:=Aside0.mk (below_step (by repeat (first | (with_reducible first | exact HB.out | apply below_alloc | apply pw_below_drewN | apply below_drew1 | refine below_set ?_ GE263.out) | exact HB.out)) hb);clear BK263;clear HB;have BK263:=n0_;have HB:=n1_;clear n0_ n1_;(try clear hb);(try clear hb2);(try clear hk);(try clear hi)))
   go_meet
   case rel => exact ⟨_,(true),(by first | rfl | (simp;done) | (simp [*];done)),H',⟨by first | omega | exact Nat.le_refl _⟩,⟨by (with_reducible repeat (first | refine blk_drewN ?_ _ | refine blk_drew ?_ | refine blk_alloc ?_ _));exact BK263.out⟩,⟨by repeat (first | (with_reducible first | exact HB.out | apply below_alloc | apply pw_below_drewN | apply below_drew1 | refine below_set ?_ GE263.out) | exact HB.out)⟩⟩
 case rest =>
  clear HC4
  try clear c1
  try clear c2
  try clear p2
  try clear c7
  try clear c9
  try clear hcz10_0
  try clear hcz13_0
  try clear hcz16_0
  try clear hfz10_0
  try clear hfz13_0
  try clear hfz16_0
  obtain ⟨kq,x21_3,rfl,HA,HJ3,BK263,HB⟩ := hcut
  cases kq with
  | zero => exact absurd HA.out (by simp [impl_IsValidLoading.j0])
  | succ kj3 =>
   have H:=HA.out
   clear HA
   simp only [impl_IsValidLoading.j0] at H
   by_cases c18 : x21_3 = true
   ·subst c18
    have H1 : (some false) = some r:=by rw [if_pos rfl] at H;exact H
    clear H
    have H:=H1
    clear H1
    obtain rfl:=Option.some.inj H
    go_wp2
    go_ret
    exact ⟨by first | rfl | (simp [errW_none,errW_some] <;> rfl) | (simp [*,errW_none,errW_some] <;> rfl),by repeat (first | (with_reducible first | exact HB.out | apply below_alloc | apply pw_below_drewN | apply below_drew1 | refine below_set ?_ GE263.out) | exact HB.out)⟩
   ·replace c18:=Bool.eq_false_iff.mpr c18
    subst c18
    have H1 : ((slices_ContainsFunc_int.f kj3 l2 l0).bind fun t266 => (if t266 = true then (some false) else ((impl_isLoaded.f kj3 l0 l1 l2).bind fun t267 => (some t267)))) = some r:=by rw [if_neg (show ¬ (false = true) by decide)] at H;exact H
    clear H
    have H:=H1
    clear H1
    replace H:=Option.bind_eq_some_iff.mp H
    obtain ⟨t266,A190,H⟩ := H
    replace H : (if t266 = true then (some false) else ((impl_isLoaded.f kj3 l0 l1 l2).bind fun t267 => (some t267))) = some r:=H
    have A19:=Aside0.mk A190
    clear A190
    by_cases c20 : t266 = true
    ·subst c20
     have H1 : (some false) = some r:=by rw [if_pos rfl] at H;exact H
     clear H
     have H:=H1
     clear H1
     obtain rfl:=Option.some.inj H
     go_wp2_with (first | ((with_reducible refine gate_callee (f:=70) rfl ?_);refine goesL_ (some 24) rfl rfl Try.func70 (by kernel_rfl) rfl #[.slice A2 l2.length c2,(.func (.func 71) #[] #[.pointer (some ⟨gb263,0,none⟩)])] rfl (by (try simp only [List.map_toArray,List.map_cons,List.map_nil]);first | done | rfl | (simp only [List.length_drop,List.length_take];rfl)) ?_;(with_reducible refine (slices_ContainsFunc_int.calls (hg1_0:=?sg0) kj3 _ _ l2 A0 c0 l0 true _ ?side1 ?side2 ?side3 ?side4 A19.out).mono ?_);(case sg0 => exact (blk_cell (by (with_reducible repeat (first | refine blk_drewN ?_ _ | refine blk_drew ?_ | refine blk_alloc ?_ _));exact BK263.out) 0).trans rfl);(case side1 => repeat (first | exact (Kd.C_below HR2.out HB.out) | (with_reducible refine Kd.C_alloc ?_ _) | (with_reducible refine Kd.C_drewN ?_ _) | (with_reducible refine Kd.C_drew ?_)));(case side2 => exact HC2.out);(case side3 => repeat (first | exact (Kd.C_below HR0.out HB.out) | (with_reducible refine Kd.C_alloc ?_ _) | (with_reducible refine Kd.C_drewN ?_ _) | (with_reducible refine Kd.C_drew ?_)));(case side4 => exact HC0.out);rintro e w21 ⟨rfl,hb⟩;refine ⟨_,rfl, ?_⟩;have n0_:=Aside0.mk (blk_below (g:=gb263) (o := .cells #[.slice A0 l0.length c0] 25 (0,0)) (by (with_reducible repeat (first | refine blk_drewN ?_ _ | refine blk_drew ?_ | refine blk_alloc ?_ _));exact BK263.out) hb);have n1_:=Aside0.mk (below_step (by repeat (first | (with_reducible first | exact HB.out | apply below_alloc | apply pw_below_drewN | apply below_drew1 | refine below_set ?_ GE263.out) | exact HB.out)) hb);clear BK263;clear HB;have BK263:=n0_;have HB:=n1_;clear n0_ n1_;(try clear hb);(try clear hb2);(try clear hk);(try clear hi)))
     go_ret
     exact ⟨by first | rfl | (simp [errW_none,errW_some] <;> rfl) | (simp [*,errW_none,errW_some] <;> rfl),by repeat (first | (with_reducible first | exact HB.out | apply below_alloc | apply pw_below_drewN | apply below_drew1 | refine below_set ?_ GE263.out) | exact HB.out)⟩
    ·replace c20:=Bool.eq_false_iff.mpr c20
     subst c20
     have H1 : ((impl_isLoaded.f kj3 l0 l1 l2).bind fun t267 => (some t267)) = some r:=by rw [if_neg (show ¬ (false = true) by decide)] at H;exact H
     clear H
     have H:=H1
     clear H1
     replace H:=Option.bind_eq_some_iff.mp H
     obtain ⟨t267,A220,H⟩ := H
     replace H : (some t267) = some r:=H
     have A22:=Aside0.mk A220
     clear A220
     obtain rfl:=Option.some.inj H
     go_wp2_with (first | ((with_reducible refine gate_callee (f:=70) rfl ?_);refine goesL_ (some 24) rfl rfl Try.func70 (by kernel_rfl) rfl #[.slice A2 l2.length c2,(.func (.func 71) #[] #[.pointer (some ⟨gb263,0,none⟩)])] rfl (by (try simp only [List.map_toArray,List.map_cons,List.map_nil]);first | done | rfl | (simp only [List.length_drop,List.length_take];rfl)) ?_;(with_reducible refine (slices_ContainsFunc_int.calls (hg1_0:=?sg0) kj3 _ _ l2 A0 c0 l0 false _ ?side1 ?side2 ?side3 ?side4 A19.out).mono ?_);(case sg0 => exact (blk_cell (by (with_reducible repeat (first | refine blk_drewN ?_ _ | refine blk_drew ?_ | refine blk_alloc ?_ _));exact BK263.out) 0).trans rfl);(case side1 => repeat (first | exact (Kd.C_below HR2.out HB.out) | (with_reducible refine Kd.C_alloc ?_ _) | (with_reducible refine Kd.C_drewN ?_ _) | (with_reducible refine Kd.C_drew ?_)));(case side2 => exact HC2.out);(case side3 => repeat (first | exact (Kd.C_below HR0.out HB.out) | (with_reducible refine Kd.C_alloc ?_ _) | (with_reducible refine Kd.C_drewN ?_ _) | (with_reducible refine Kd.C_drew ?_)));(case side4 => exact HC0.out);rintro e w23 ⟨rfl,hb⟩;refine ⟨_,rfl, ?_⟩;have n0_:=Aside0.mk (blk_below (g:=gb263) (o := .cells #[.slice A0 l0.length c0] 25 (0,0)) (by (with_reducible repeat (first | refine blk_drewN ?_ _ | refine blk_drew ?_ | refine blk_alloc ?_ _));exact BK263.out) hb);have n1_:=Aside0.mk (below_step (by repeat (first | (with_reducible first | exact HB.out | apply below_alloc | apply pw_below_drewN | apply below_drew1 | refine below_set ?_ GE263.out) | exact HB.out)) hb);clear BK263;clear HB;have BK263:=n0_;have HB:=n1_;clear n0_ n1_;(try clear hb);(try clear hb2);(try clear hk);(try clear hi);have hcz24_0 : w23.cell? ⟨gb263,0,none⟩ = some (.slice A0 l0.length c0):=(blk_cell BK263.out 0).trans rfl;have hfz24_0:=blk_frozen BK263.out 0) | ((with_reducible refine gate_callee (f:=72) rfl ?_);refine goesL_ (some 28) rfl rfl Try.func72 (by kernel_rfl) rfl #[.slice A0 l0.length c0, .slice A1 l1.length c1, .slice A2 l2.length c2] rfl (by (try simp only [List.map_toArray,List.map_cons,List.map_nil]);first | done | rfl | (simp only [List.length_drop,List.length_take];rfl)) ?_;(with_reducible refine (impl_isLoaded.calls kj3 _ _ l0 _ _ l1 _ _ l2 t267 _ ?side1 ?side2 ?side3 ?side4 ?side5 ?side6 A22.out).mono ?_);(case side1 => repeat (first | exact (Kd.C_below HR0.out HB.out) | (with_reducible refine Kd.C_alloc ?_ _) | (with_reducible refine Kd.C_drewN ?_ _) | (with_reducible refine Kd.C_drew ?_)));(case side2 => exact HC0.out);(case side3 => repeat (first | exact (Kd.C_below HR1.out HB.out) | (with_reducible refine Kd.C_alloc ?_ _) | (with_reducible refine Kd.C_drewN ?_ _) | (with_reducible refine Kd.C_drew ?_)));(case side4 => exact HC1.out);(case side5 => repeat (first | exact (Kd.C_below HR2.out HB.out) | (with_reducible refine Kd.C_alloc ?_ _) | (with_reducible refine Kd.C_drewN ?_ _) | (with_reducible refine Kd.C_drew ?_)));(case side6 => exact HC2.out);rintro e w25 ⟨rfl,hb⟩;refine ⟨_,rfl, ?_⟩;have n0_:=Aside0.mk (blk_below (g:=gb263) (o := .cells #[.slice A0 l0.length c0] 25 (0,0)) (by (with_reducible repeat (first | refine blk_drewN ?_ _ | refine blk_drew ?_ | refine blk_alloc ?_ _));exact BK263.out) hb);have n1_:=Aside0.mk (below_step (by repeat (first | (with_reducible first | exact HB.out | apply below_alloc | apply pw_below_drewN | apply below_drew1 | refine below_set ?_ GE263.out) | exact HB.out)) hb);clear BK263;clear HB;have BK263:=n0_;have HB:=n1_;clear n0_ n1_;(try clear hb);(try clear hb2);(try clear hk);(try clear hi)))
     go_ret
     exact ⟨by first | rfl | (simp [errW_none,errW_some] <;> rfl) | (simp [*,errW_none,errW_some] <;> rfl),by repeat (first | (with_reducible first | exact HB.out | apply below_alloc | apply pw_below_drewN | apply below_drew1 | refine below_set ?_ GE263.out) | exact HB.out)⟩

/-! ### slices_Clone_int: function 79 -/
def slices_Clone_int.f (l0 : List Int) : Option (List Int):=(some (([] : List Int) : List Int)).bind fun y268 => (if y268.length + l0.length < 17592186044416 then (some (y268 ++ l0)) else (none))
set_option maxHeartbeats 8000000 in
set_option maxRecDepth 100000 in
theorem slices_Clone_int.calls (A0 : Option Addr) (c0 : Nat) (l0 : List Int) (r : List Int) (w : World) (hr0 : Kd.C (Kd.int .i64) w A0 l0.length l0) (hc0 : l0.length ≤ c0) (h : slices_Clone_int.f l0 = some r) :
  Calls Try.prog 79 #[.slice A0 l0.length c0] w fun e w' => ∃ v0_ : Value,e = .returned (v0_) ∧ Kd.R (Kd.int .i64) 3 w' w.heap.size (fun _ => True) v0_ r ∧ Below w.heap.size w w':=by
 have HR0:=Aside0.mk hr0
 have HC0:=Aside0.mk hc0
 clear hr0 hc0
 have HB:=Aside0.mk (Below.refl w.heap.size w)
 have H : ((some (([] : List Int) : List Int)).bind fun y268 => (if y268.length + l0.length < 17592186044416 then (some (y268 ++ l0)) else (none))) = some r:=h
 clear h
 obtain ⟨y268,hy268⟩ : ∃ y_ : List Int,y_ = (([] : List Int)):=⟨_,rfl⟩
 replace H : (if y268.length + l0.length < 17592186044416 then (some (y268 ++ l0)) else (none)) = some r:=by first | (rw [hy268];with_reducible exact H) | (have H2_:=(Option.bind_some _ _).symm.trans H;rw [hy268];with_reducible exact H2_) | (have H2_:=(Option.bind_some _ _).symm.trans H;with_reducible exact H2_) | with_reducible exact H | (rw [hy268];exact H) | exact H
 have Ny268:=Aside0.mk hy268
 clear hy268
 by_cases c2 : y268.length + l0.length < 17592186044416
 ·rw [if_pos c2] at H
  have LMc2:=Aside0.mk c2
  clear c2
  obtain ⟨y271,hy271⟩ : ∃ y_ : List Int,y_ = (y268 ++ l0):=⟨_,rfl⟩
  replace H : (some y271) = some r:=by first | (rw [hy271];with_reducible exact H) | (have H2_:=(Option.bind_some _ _).symm.trans H;rw [hy271];with_reducible exact H2_) | (have H2_:=(Option.bind_some _ _).symm.trans H;with_reducible exact H2_) | with_reducible exact H | (rw [hy271];exact H) | exact H
  have Ny271:=Aside0.mk hy271
  clear hy271
  obtain rfl:=Option.some.inj H
  have hnil_:=fun (w_ : World) (a_ : Option Addr) (n_ c_ : Nat) => Lib.run_eql_slice_nil (P:=Try.prog) w_ 30 3 a_ n_ c_ 0 0 Try.underlying30
  rcases A0 with _ | ad0_
  ·have l0nil : l0 = []:=by
    rcases l0 with _ | ⟨x_,l_⟩
    ·rfl
    ·obtain ⟨ad_,e_,_⟩ := HR0.out.2.2 (by simp)
     cases e_
   have rnil : y271 = []:=by rw [Ny271.out,Ny268.out,l0nil];rfl
   subst rnil
   subst l0nil
   go_enter Try.func79,Try.ntmps79
   go_wp2
   go_ret
   exact ⟨_,rfl,Kd.R_nil _ _ _ _ _,Below.refl _ _⟩
  ·go_enter Try.func79,Try.ntmps79
   go_wp2_with (first | ((with_reducible refine gate_dst (N:=5) rfl ?_);refine Kd.R_lit (Kd.int .i64) _ 3 ?hg (N:=5) ?hd (xs:=([] : List Int)) (inner := []) (ok:=fun _ => True) (okp:=fun _ => True) ?hr ?hp (fun _ hk => hk) trivial (Below.refl _ _) (Nat.le_refl _) (by simp) ?_;(case hd => rfl);(case hg => rfl);(case hr => first | (go_simp;done) | (go_simp;rfl));(case hp => exact (Reps.none _ _));intro v269 w3 ho4 hb hg_ hnew_;clear hg_ hnew_;(first | rw [← Ny268.out] at ho4 | (simp only [Int.reduceToNat] at ho4;rw [← Ny268.out] at ho4));have n0_:=Aside0.mk (Kd.R_lower ho4 (below_size (by repeat (first | (with_reducible first | exact HB.out | apply below_alloc | apply pw_below_drewN | apply below_drew1) | exact HB.out))));have n1_:=Aside0.mk (below_step (by repeat (first | (with_reducible first | exact HB.out | apply below_alloc | apply pw_below_drewN | apply below_drew1) | exact HB.out)) hb);clear HB;have HO270:=n0_;have HB:=n1_;clear n0_ n1_;clear hb ho4) | ((with_reducible refine gate_builtin (b := .append) (xs:=#[.tmp 5, .tmp 6]) rfl ?_);at_builtin;refine Kd.R_append_rows (Kd.int .i64) (w0:=w) w.heap.size rfl (.tmp 5) (.tmp 6) 30 3 (.int .i64 0) 8 rfl Try.underlying30 info3 rfl (by decide) (by omega) v269 y268 l0 _ _ _ (fun _ => True) (fun _ => False) rfl rfl ?aO ?aR (fun _ _ h => h) (fun _ h => h.elim) ?aF ?aB ?aS ?aL ?_;(case aR => repeat (first | exact (Kd.C_below HR0.out HB.out) | (with_reducible refine Kd.C_alloc ?_ _) | (with_reducible refine Kd.C_drewN ?_ _) | (with_reducible refine Kd.C_drew ?_)));(case aB => exact (by repeat (first | (with_reducible first | exact HB.out | apply below_alloc | apply pw_below_drewN | apply below_drew1) | exact HB.out)));(case aF => exact (fun _ _ => trivial));(case aO => exact (by (with_reducible repeat (first | apply Kd.R_alloc | apply Kd.R_drewN | apply Kd.R_drew));exact HO270.out));(case aS => exact (below_size (by repeat (first | (with_reducible first | exact HB.out | apply below_alloc | apply pw_below_drewN | apply below_drew1) | exact HB.out))));(case aL => have:=LMc2.out;omega);intro v272 w5 ho hb hg hat;rw [← Ny271.out] at ho;have n0_:=Aside0.mk (hb);have n1_:=Aside0.mk (ho);clear HB;clear HO270;have HB:=n0_;have HO273:=n1_;clear n0_ n1_;clear ho hb hg hat))
   go_ret
   exact ⟨_,by first | rfl | (simp [errW_none,errW_some] <;> rfl) | (simp [*,errW_none,errW_some] <;> rfl),by (with_reducible repeat (first | apply Kd.R_alloc | apply Kd.R_drewN | apply Kd.R_drew));exact HO273.out,by repeat (first | (with_reducible first | exact HB.out | apply below_alloc | apply pw_below_drewN | apply below_drew1) | exact HB.out)⟩
 ·rw [if_neg c2] at H
  exact absurd H (by simp)

/-! ### impl_MoveToWagon: function 42 -/
def impl_MoveToWagon.j0 : Nat → List (S70) → List (S64) → List Int → Int → Int → Bool → Option (List Int × Bool)
 | 0,_,_,_,_,_,_ => none
 | k + 1,x0,x1,x2,x4,x12,x25 => if x25 = true then (some (([] : List Int),false)) else ((slices_Clone_int.f x2).bind fun t276 => (if 0 ≤ x12 then (if x12 < (t276.length : Int) then ((some (t276.set (x12 : Int).toNat x4 : List Int)).bind fun y279 => ((impl_IsValidLoading.f k x0 x1 y279).bind fun t280 => (if t280 = true then (some (y279,true)) else (some (([] : List Int),false))))) else (none)) else (none)))
def impl_MoveToWagon.f (k : Nat) (l0 : List (S70)) (l1 : List (S64)) (l2 : List Int) (a3 : ByteArray) (a4 : Int) : Option (List Int × Bool):=(impl_indexOf.f k l1 a3).bind fun t274 => ((impl_IsValidLoading.f k l0 l1 l2).bind fun t275 => (if t275 = true then (impl_MoveToWagon.j0 k l0 l1 l2 a4 t274 (decide (t274 < 0))) else (impl_MoveToWagon.j0 k l0 l1 l2 a4 t274 true)))
theorem impl_MoveToWagon.mono_l : ∀ k,(∀ y0 y1 y2 y3 y4 y5,LeO (impl_MoveToWagon.j0 k y0 y1 y2 y3 y4 y5) (impl_MoveToWagon.j0 (k + 1) y0 y1 y2 y3 y4 y5))
 | 0 => fun _ _ _ _ _ _ r h => by simp [impl_MoveToWagon.j0] at h
 | k + 1 => by
  have ih0:=impl_MoveToWagon.mono_l k
  ·intro y0 y1 y2 y3 y4 y5
   unfold impl_MoveToWagon.j0
   repeat' first
   | (with_reducible exact ih0 _ _ _ _ _ _)
   | (with_reducible exact impl_IsValidLoading.mono _ _ _ _)
   | (with_reducible exact impl_indexOf.mono _ _ _)
   | (with_reducible exact LeO.refl _)
   | (with_reducible exact LeO.none _)
   | (with_reducible refine LeO.ite ?_ ?_)
   | (with_reducible refine LeO.bind ?_ (fun _ => ?_))
   | exact ih0 _ _ _ _ _ _
   | exact impl_IsValidLoading.mono _ _ _ _
   | exact impl_indexOf.mono _ _ _
   | exact LeO.none _
   | refine LeO.ite ?_ ?_
   | refine LeO.bind ?_ (fun _ => ?_)
theorem impl_MoveToWagon.mono : ∀ a0 a1 a2 a3 a4 k,LeO (impl_MoveToWagon.f k a0 a1 a2 a3 a4) (impl_MoveToWagon.f (k + 1) a0 a1 a2 a3 a4):=by
 intro a0 a1 a2 a3 a4 k
 have ih0:=impl_MoveToWagon.mono_l k
 unfold impl_MoveToWagon.f
 repeat' first
   | (with_reducible exact ih0 _ _ _ _ _ _)
   | (with_reducible exact impl_IsValidLoading.mono _ _ _ _)
   | (with_reducible exact impl_indexOf.mono _ _ _)
   | (with_reducible exact LeO.refl _)
   | (with_reducible exact LeO.none _)
   | (with_reducible refine LeO.ite ?_ ?_)
   | (with_reducible refine LeO.bind ?_ (fun _ => ?_))
   | exact ih0 _ _ _ _ _ _
   | exact impl_IsValidLoading.mono _ _ _ _
   | exact impl_indexOf.mono _ _ _
   | exact LeO.none _
   | refine LeO.ite ?_ ?_
   | refine LeO.bind ?_ (fun _ => ?_)
set_option maxHeartbeats 8000000 in
set_option maxRecDepth 100000 in
theorem impl_MoveToWagon.calls (k : Nat) (A0 : Option Addr) (c0 : Nat) (l0 : List (S70)) (A1 : Option Addr) (c1 : Nat) (l1 : List (S64)) (A2 : Option Addr) (c2 : Nat) (l2 : List Int) (a3 : ByteArray) (a4 : Int) (r1 : List Int) (r2 : Bool) (w : World) (hr0 : Kd.C k70 w A0 l0.length l0) (hc0 : l0.length ≤ c0) (hr1 : Kd.C k64 w A1 l1.length l1) (hc1 : l1.length ≤ c1) (hr2 : Kd.C (Kd.int .i64) w A2 l2.length l2) (hc2 : l2.length ≤ c2) (h : impl_MoveToWagon.f k l0 l1 l2 a3 a4 = some (r1,r2)) :
  Calls Try.prog 42 #[.slice A0 l0.length c0, .slice A1 l1.length c1, .slice A2 l2.length c2, .string a3, .int .i64 a4] w fun e w' => ∃ v0_ : Value,e = .returned (.tuple #[v0_, .bool r2]) ∧ Kd.R (Kd.int .i64) 3 w' w.heap.size (fun _ => True) v0_ r1 ∧ Below w.heap.size w w':=by
 have HR0:=Aside0.mk hr0
 have HC0:=Aside0.mk hc0
 clear hr0 hc0
 have HR1:=Aside0.mk hr1
 have HC1:=Aside0.mk hc1
 clear hr1 hc1
 have HR2:=Aside0.mk hr2
 have HC2:=Aside0.mk hc2
 clear hr2 hc2
 have HB:=Aside0.mk (Below.refl w.heap.size w)
 have H : ((impl_indexOf.f k l1 a3).bind fun t274 => ((impl_IsValidLoading.f k l0 l1 l2).bind fun t275 => (if t275 = true then (impl_MoveToWagon.j0 k l0 l1 l2 a4 t274 (decide (t274 < 0))) else (impl_MoveToWagon.j0 k l0 l1 l2 a4 t274 true)))) = some (r1,r2):=h
 clear h
 replace H:=Option.bind_eq_some_iff.mp H
 obtain ⟨t274,A60,H⟩ := H
 replace H : ((impl_IsValidLoading.f k l0 l1 l2).bind fun t275 => (if t275 = true then (impl_MoveToWagon.j0 k l0 l1 l2 a4 t274 (decide (t274 < 0))) else (impl_MoveToWagon.j0 k l0 l1 l2 a4 t274 true))) = some (r1,r2):=H
 have A6:=Aside0.mk A60
 clear A60
 have HC7:=Aside0.mk H
 clear H
 go_enter Try.func42,Try.ntmps42
 go_upto_region 2 with (first | ((with_reducible refine gate_callee (f:=86) rfl ?_);refine goesL_ (some 16) rfl rfl Try.func86 (by kernel_rfl) rfl #[.slice A1 l1.length c1, .string a3] rfl (by (try simp only [List.map_toArray,List.map_cons,List.map_nil]);first | done | rfl | (simp only [List.length_drop,List.length_take];rfl)) ?_;(with_reducible refine (impl_indexOf.calls k _ _ l1 a3 t274 _ ?side1 ?side2 A6.out).mono ?_);(case side1 => repeat (first | exact HR1.out | (with_reducible refine Kd.C_alloc ?_ _) | (with_reducible refine Kd.C_drewN ?_ _) | (with_reducible refine Kd.C_drew ?_)));(case side2 => exact HC1.out);rintro e w8 ⟨rfl,hb⟩;refine ⟨_,rfl, ?_⟩;have n0_:=Aside0.mk (below_step (by repeat (first | (with_reducible first | exact HB.out | apply below_alloc | apply pw_below_drewN | apply below_drew1) | exact HB.out)) hb);clear HB;have HB:=n0_;clear n0_;(try clear hb);(try clear hb2);(try clear hk);(try clear hi)))
 (try simp only [Act.put,sA_,s0_,s1_])
 go_cut [25] (fun v25 wc => ∃ (kq : Nat) (x25_6 : Bool),v25 = .bool x25_6 ∧ Aside0 (impl_MoveToWagon.j0 kq l0 l1 l2 a4 t274 x25_6 = some (r1,r2)) ∧ Aside0 (kq ≤ k) ∧ Aside0 (Below w.heap.size w wc))
 case first =>
  have H:=HC7.out
  clear HC7
  replace H:=Option.bind_eq_some_iff.mp H
  obtain ⟨t275,A90,H⟩ := H
  replace H : (if t275 = true then (impl_MoveToWagon.j0 k l0 l1 l2 a4 t274 (decide (t274 < 0))) else (impl_MoveToWagon.j0 k l0 l1 l2 a4 t274 true)) = some (r1,r2):=H
  have A9:=Aside0.mk A90
  clear A90
  by_cases c10 : t275 = true
  ·subst c10
   have H1 : (impl_MoveToWagon.j0 k l0 l1 l2 a4 t274 (decide (t274 < 0))) = some (r1,r2):=by rw [if_pos rfl] at H;exact H
   clear H
   have H:=H1
   clear H1
   have H':=Aside0.mk H
   clear H
   go_wp2_with (first | ((with_reducible refine gate_callee (f:=24) rfl ?_);refine goesL_ (some 20) rfl rfl Try.func24 (by kernel_rfl) rfl #[.slice A0 l0.length c0, .slice A1 l1.length c1, .slice A2 l2.length c2] rfl (by (try simp only [List.map_toArray,List.map_cons,List.map_nil]);first | done | rfl | (simp only [List.length_drop,List.length_take];rfl)) ?_;(with_reducible refine (impl_IsValidLoading.calls k _ _ l0 _ _ l1 _ _ l2 true _ ?side1 ?side2 ?side3 ?side4 ?side5 ?side6 A9.out).mono ?_);(case side1 => repeat (first | exact (Kd.C_below HR0.out HB.out) | (with_reducible refine Kd.C_alloc ?_ _) | (with_reducible refine Kd.C_drewN ?_ _) | (with_reducible refine Kd.C_drew ?_)));(case side2 => exact HC0.out);(case side3 => repeat (first | exact (Kd.C_below HR1.out HB.out) | (with_reducible refine Kd.C_alloc ?_ _) | (with_reducible refine Kd.C_drewN ?_ _) | (with_reducible refine Kd.C_drew ?_)));(case side4 => exact HC1.out);(case side5 => repeat (first | exact (Kd.C_below HR2.out HB.out) | (with_reducible refine Kd.C_alloc ?_ _) | (with_reducible refine Kd.C_drewN ?_ _) | (with_reducible refine Kd.C_drew ?_)));(case side6 => exact HC2.out);rintro e w11 ⟨rfl,hb⟩;refine ⟨_,rfl, ?_⟩;have n0_:=Aside0.mk (below_step (by repeat (first | (with_reducible first | exact HB.out | apply below_alloc | apply pw_below_drewN | apply below_drew1) | exact HB.out)) hb);clear HB;have HB:=n0_;clear n0_;(try clear hb);(try clear hb2);(try clear hk);(try clear hi)))
   go_meet
   case rel => exact ⟨_,(decide (t274 < 0)),(by first | rfl | (simp;done) | (simp [*];done)),H',⟨by first | omega | exact Nat.le_refl _⟩,⟨by repeat (first | (with_reducible first | exact HB.out | apply below_alloc | apply pw_below_drewN | apply below_drew1) | exact HB.out)⟩⟩
  ·replace c10:=Bool.eq_false_iff.mpr c10
   subst c10
   have H1 : (impl_MoveToWagon.j0 k l0 l1 l2 a4 t274 true) = some (r1,r2):=by rw [if_neg (show ¬ (false = true) by decide)] at H;exact H
   clear H
   have H:=H1
   clear H1
   have H':=Aside0.mk H
   clear H
   go_wp2_with (first | ((with_reducible refine gate_callee (f:=24) rfl ?_);refine goesL_ (some 20) rfl rfl Try.func24 (by kernel_rfl) rfl #[.slice A0 l0.length c0, .slice A1 l1.length c1, .slice A2 l2.length c2] rfl (by (try simp only [List.map_toArray,List.map_cons,List.map_nil]);first | done | rfl | (simp only [List.length_drop,List.length_take];rfl)) ?_;(with_reducible refine (impl_IsValidLoading.calls k _ _ l0 _ _ l1 _ _ l2 false _ ?side1 ?side2 ?side3 ?side4 ?side5 ?side6 A9.out).mono ?_);(case side1 => repeat (first | exact (Kd.C_below HR0.out HB.out) | (with_reducible refine Kd.C_alloc ?_ _) | (with_reducible refine Kd.C_drewN ?_ _) | (with_reducible refine Kd.C_drew ?_)));(case side2 => exact HC0.out);(case side3 => repeat (first | exact (Kd.C_below HR1.out HB.out) | (with_reducible refine Kd.C_alloc ?_ _) | (with_reducible refine Kd.C_drewN ?_ _) | (with_reducible refine Kd.C_drew ?_)));(case side4 => exact HC1.out);(case side5 => repeat (first | exact (Kd.C_below HR2.out HB.out) | (with_reducible refine Kd.C_alloc ?_ _) | (with_reducible refine Kd.C_drewN ?_ _) | (with_reducible refine Kd.C_drew ?_)));(case side6 => exact HC2.out);rintro e w12 ⟨rfl,hb⟩;refine ⟨_,rfl, ?_⟩;have n0_:=Aside0.mk (below_step (by repeat (first | (with_reducible first | exact HB.out | apply below_alloc | apply pw_below_drewN | apply below_drew1) | exact HB.out)) hb);clear HB;have HB:=n0_;clear n0_;(try clear hb);(try clear hb2);(try clear hk);(try clear hi)))
   go_meet
   case rel => exact ⟨_,(true),(by first | rfl | (simp;done) | (simp [*];done)),H',⟨by first | omega | exact Nat.le_refl _⟩,⟨by repeat (first | (with_reducible first | exact HB.out | apply below_alloc | apply pw_below_drewN | apply below_drew1) | exact HB.out)⟩⟩
 case rest =>
  clear HC7
  try clear c1
  try clear c2
  try clear p2
  try clear c4
  try clear c8
  try clear c10
  obtain ⟨kq,x25_6,rfl,HA,HJ6,HB⟩ := hcut
  cases kq with
  | zero => exact absurd HA.out (by simp [impl_MoveToWagon.j0])
  | succ kj6 =>
   have H:=HA.out
   clear HA
   simp only [impl_MoveToWagon.j0] at H
   by_cases c13 : x25_6 = true
   ·subst c13
    have H1 : (some (([] : List Int),false)) = some (r1,r2):=by rw [if_pos rfl] at H;exact H
    clear H
    have H:=H1
    clear H1
    simp only [Option.some.injEq,Prod.mk.injEq] at H
    obtain ⟨rfl,rfl⟩ := H
    go_wp2
    go_ret2
    exact ⟨_,by first | rfl | (simp [errW_none,errW_some] <;> rfl) | (simp [*,errW_none,errW_some] <;> rfl),by first | exact Kd.R_nil _ _ _ _ _ | exact Kd.N_nil _ _ _ _ _ | exact Kd.V_nil _ _ _ _ _ | exact Kd.Q_nil _ _ _ _ _ | exact Kd.S_nil _ _ _ _ _,by repeat (first | (with_reducible first | exact HB.out | apply below_alloc | apply pw_below_drewN | apply below_drew1) | exact HB.out)⟩
   ·replace c13:=Bool.eq_false_iff.mpr c13
    subst c13
    have H1 : ((slices_Clone_int.f l2).bind fun t276 => (if 0 ≤ t274 then (if t274 < (t276.length : Int) then ((some (t276.set (t274 : Int).toNat a4 : List Int)).bind fun y279 => ((impl_IsValidLoading.f kj6 l0 l1 y279).bind fun t280 => (if t280 = true then (some (y279,true)) else (some (([] : List Int),false))))) else (none)) else (none))) = some (r1,r2):=by rw [if_neg (show ¬ (false = true) by decide)] at H;exact H
    clear H
    have H:=H1
    clear H1
    replace H:=Option.bind_eq_some_iff.mp H
    obtain ⟨t276,A140,H⟩ := H
    replace H : (if 0 ≤ t274 then (if t274 < (t276.length : Int) then ((some (t276.set (t274 : Int).toNat a4 : List Int)).bind fun y279 => ((impl_IsValidLoading.f kj6 l0 l1 y279).bind fun t280 => (if t280 = true then (some (y279,true)) else (some (([] : List Int),false))))) else (none)) else (none)) = some (r1,r2):=H
    have A14:=Aside0.mk A140
    clear A140
    by_cases c15 : 0 ≤ t274
    ·rw [if_pos c15] at H
     have c15b0 : decide (0 ≤ t274) = true:=decide_eq_true c15
     clear c15
     by_cases c16 : t274 < (t276.length : Int)
     ·rw [if_pos c16] at H
      have c16b0 : decide (t274 < (t276.length : Int)) = true:=decide_eq_true c16
      clear c16
      obtain ⟨y279,hy279⟩ : ∃ y_ : List Int,y_ = (t276.set (t274 : Int).toNat a4):=⟨_,rfl⟩
      replace H : ((impl_IsValidLoading.f kj6 l0 l1 y279).bind fun t280 => (if t280 = true then (some (y279,true)) else (some (([] : List Int),false)))) = some (r1,r2):=by first | (rw [hy279];with_reducible exact H) | (have H2_:=(Option.bind_some _ _).symm.trans H;rw [hy279];with_reducible exact H2_) | (have H2_:=(Option.bind_some _ _).symm.trans H;with_reducible exact H2_) | with_reducible exact H | (rw [hy279];exact H) | exact H
      have Ny279:=Aside0.mk hy279
      clear hy279
      replace H:=Option.bind_eq_some_iff.mp H
      obtain ⟨t280,A180,H⟩ := H
      replace H : (if t280 = true then (some (y279,true)) else (some (([] : List Int),false))) = some (r1,r2):=H
      have A18:=Aside0.mk A180
      clear A180
      by_cases c19 : t280 = true
      ·subst c19
       have H1 : (some (y279,true)) = some (r1,r2):=by rw [if_pos rfl] at H;exact H
       clear H
       have H:=H1
       clear H1
       simp only [Option.some.injEq,Prod.mk.injEq] at H
       obtain ⟨rfl,rfl⟩ := H
       go_wp2_with (first | ((with_reducible refine gate_callee (f:=79) rfl ?_);refine goesL_ (some 27) rfl rfl Try.func79 (by kernel_rfl) rfl #[.slice A2 l2.length c2] rfl (by (try simp only [List.map_toArray,List.map_cons,List.map_nil]);first | done | rfl | (simp only [List.length_drop,List.length_take];rfl)) ?_;(with_reducible refine (slices_Clone_int.calls _ _ l2 t276 _ ?side1 ?side2 A14.out).mono ?_);(case side1 => repeat (first | exact (Kd.C_below HR2.out HB.out) | (with_reducible refine Kd.C_alloc ?_ _) | (with_reducible refine Kd.C_drewN ?_ _) | (with_reducible refine Kd.C_drew ?_)));(case side2 => exact HC2.out);rintro e w20 ⟨v277,rfl,ho0,hb⟩;refine ⟨_,rfl, ?_⟩;have n0_:=Aside0.mk (Kd.R_lower ho0 (below_size (by repeat (first | (with_reducible first | exact HB.out | apply below_alloc | apply pw_below_drewN | apply below_drew1) | exact HB.out))));have n1_:=Aside0.mk (below_step (by repeat (first | (with_reducible first | exact HB.out | apply below_alloc | apply pw_below_drewN | apply below_drew1) | exact HB.out)) hb);clear HB;have HO278:=n0_;have HB:=n1_;clear n0_ n1_;(try clear hb);(try clear hb2);(try clear hk);(try clear hi);(try clear ho0);have p17 : 0 ≤ (t274 : Int):=of_decide_eq_true (by first | (with_reducible assumption) | assumption);have q17 : (t274 : Int) < ((t276.length : Int) : Int):=of_decide_eq_true (by first | (with_reducible assumption) | assumption);obtain ⟨go17,co17,eo17,gb17,gl17,cl17,HG17⟩ := Kd.R_form HO278.out (by omega);(first | cases eo17 | (injection eo17 with ea_ en_ ec_;(first | subst ea_ | (injection ea_ with ea_;subst ea_));subst ec_;clear en_));have GB17:=Aside0.mk gb17;have GG17:=Aside0.mk HG17;clear gb17 gl17 HG17;obtain ⟨hx17_0,hf17_0⟩ := Kd.R_celln 0 HO278.out (t274 : Int) p17 q17;replace p17:=eq_true p17;replace q17:=eq_true q17;obtain ⟨hy21_,hz21_⟩ := Kd.R_celln 0 HO278.out (t274 : Int) (of_decide_eq_true (by first | (with_reducible assumption) | assumption)) (of_decide_eq_true (by first | (with_reducible assumption) | assumption));have HP21:=Kd.R_putg HO278.out (t274 : Int) a4) | ((with_reducible refine gate_store (t:=3) (p:=31) rfl ?_);refine store_event (t:=3) (p:=31) (v:=?vo_w22) (w1:=(w20.setCell ⟨go17,(t274 : Int).toNat,none⟩ (.int .i64 a4))) ?hg ?ho ?hn ?hr ?_;(case ho => rfl);(case hg => rfl);(case hn => rfl);(case hr => first | (go_simp;done) | (go_simp;rfl));intro w22 hw;have hg : w20.grownBy w22 (some go17):=(by rw [hw];exact HP21.2);have hp_ : Kd.R (Kd.int .i64) 3 w22 w.heap.size (fun _ => True) (.slice (some ⟨go17,0,none⟩) t276.length co17) y279:=(by rw [hw,Ny279.out];exact HP21.1);clear HP21;have n0_:=Aside0.mk (hp_);have n1_:=Aside0.mk ((by rw [hw];exact below_set (HB.out) GB17.out : Below w.heap.size w w22));clear HO278;clear HB;have HO278:=n0_;have HB:=n1_;clear n0_ n1_;clear hg hw hp_) | ((with_reducible refine gate_callee (f:=24) rfl ?_);refine goesL_ (some 35) rfl rfl Try.func24 (by kernel_rfl) rfl #[.slice A0 l0.length c0, .slice A1 l1.length c1, .slice (some ⟨go17,0,none⟩) y279.length co17] rfl (by (try simp only [List.map_toArray,List.map_cons,List.map_nil]);first | done | (rw [show y279.length = t276.length from (Kd.R_reads' HO278.out).1.symm] <;> rfl) | rfl | (simp only [List.length_drop,List.length_take];rfl)) ?_;(with_reducible refine (impl_IsValidLoading.calls kj6 _ _ l0 _ _ l1 _ _ y279 true _ ?side1 ?side2 ?side3 ?side4 ?side5 ?side6 A18.out).mono ?_);(case side1 => repeat (first | exact (Kd.C_below HR0.out HB.out) | (with_reducible refine Kd.C_alloc ?_ _) | (with_reducible refine Kd.C_drewN ?_ _) | (with_reducible refine Kd.C_drew ?_)));(case side2 => exact HC0.out);(case side3 => repeat (first | exact (Kd.C_below HR1.out HB.out) | (with_reducible refine Kd.C_alloc ?_ _) | (with_reducible refine Kd.C_drewN ?_ _) | (with_reducible refine Kd.C_drew ?_)));(case side4 => exact HC1.out);(case side5 => repeat (first | exact (Kd.R_reads' HO278.out).2.2 | (with_reducible refine Kd.C_alloc ?_ _) | (with_reducible refine Kd.C_drewN ?_ _) | (with_reducible refine Kd.C_drew ?_)));(case side6 => rw [show y279.length = t276.length from (Kd.R_reads' HO278.out).1.symm];exact (Kd.R_reads' HO278.out).2.1);rintro e w23 ⟨rfl,hb⟩;refine ⟨_,rfl, ?_⟩;have n0_:=Aside0.mk (Kd.R_below (by (with_reducible repeat (first | apply Kd.R_alloc | apply Kd.R_drewN | apply Kd.R_drew));exact HO278.out) hb);have n1_:=Aside0.mk (below_step (by repeat (first | (with_reducible first | exact HB.out | apply below_alloc | apply pw_below_drewN | apply below_drew1) | exact HB.out)) hb);clear HO278;clear HB;have HO278:=n0_;have HB:=n1_;clear n0_ n1_;(try clear hb);(try clear hb2);(try clear hk);(try clear hi)))
       go_ret2
       exact ⟨_,by first | rfl | (simp [errW_none,errW_some] <;> rfl) | (simp [*,errW_none,errW_some] <;> rfl),by (with_reducible repeat (first | apply Kd.R_alloc | apply Kd.R_drewN | apply Kd.R_drew));exact HO278.out,by repeat (first | (with_reducible first | exact HB.out | apply below_alloc | apply pw_below_drewN | apply below_drew1) | exact HB.out)⟩
      ·replace c19:=Bool.eq_false_iff.mpr c19
       subst c19
       have H1 : (some (([] : List Int),false)) = some (r1,r2):=by rw [if_neg (show ¬ (false = true) by decide)] at H;exact H
       clear H
       have H:=H1
       clear H1
       simp only [Option.some.injEq,Prod.mk.injEq] at H
       obtain ⟨rfl,rfl⟩ := H
       go_wp2_with (first | ((with_reducible refine gate_callee (f:=79) rfl ?_);refine goesL_ (some 27) rfl rfl Try.func79 (by kernel_rfl) rfl #[.slice A2 l2.length c2] rfl (by (try simp only [List.map_toArray,List.map_cons,List.map_nil]);first | done | rfl | (simp only [List.length_drop,List.length_take];rfl)) ?_;(with_reducible refine (slices_Clone_int.calls _ _ l2 t276 _ ?side1 ?side2 A14.out).mono ?_);(case side1 => repeat (first | exact (Kd.C_below HR2.out HB.out) | (with_reducible refine Kd.C_alloc ?_ _) | (with_reducible refine Kd.C_drewN ?_ _) | (with_reducible refine Kd.C_drew ?_)));(case side2 => exact HC2.out);rintro e w24 ⟨v277,rfl,ho0,hb⟩;refine ⟨_,rfl, ?_⟩;have n0_:=Aside0.mk (Kd.R_lower ho0 (below_size (by repeat (first | (with_reducible first | exact HB.out | apply below_alloc | apply pw_below_drewN | apply below_drew1) | exact HB.out))));have n1_:=Aside0.mk (below_step (by repeat (first | (with_reducible first | exact HB.out | apply below_alloc | apply pw_below_drewN | apply below_drew1) | exact HB.out)) hb);clear HB;have HO278:=n0_;have HB:=n1_;clear n0_ n1_;(try clear hb);(try clear hb2);(try clear hk);(try clear hi);(try clear ho0);have p17 : 0 ≤ (t274 : Int):=of_decide_eq_true (by first | (with_reducible assumption) | assumption);have q17 : (t274 : Int) < ((t276.length : Int) : Int):=of_decide_eq_true (by first | (with_reducible assumption) | assumption);obtain ⟨go17,co17,eo17,gb17,gl17,cl17,HG17⟩ := Kd.R_form HO278.out (by omega);(first | cases eo17 | (injection eo17 with ea_ en_ ec_;(first | subst ea_ | (injection ea_ with ea_;subst ea_));subst ec_;clear en_));have GB17:=Aside0.mk gb17;have GG17:=Aside0.mk HG17;clear gb17 gl17 HG17;obtain ⟨hx17_0,hf17_0⟩ := Kd.R_celln 0 HO278.out (t274 : Int) p17 q17;replace p17:=eq_true p17;replace q17:=eq_true q17;obtain ⟨hy25_,hz25_⟩ := Kd.R_celln 0 HO278.out (t274 : Int) (of_decide_eq_true (by first | (with_reducible assumption) | assumption)) (of_decide_eq_true (by first | (with_reducible assumption) | assumption));have HP25:=Kd.R_putg HO278.out (t274 : Int) a4) | ((with_reducible refine gate_store (t:=3) (p:=31) rfl ?_);refine store_event (t:=3) (p:=31) (v:=?vo_w26) (w1:=(w24.setCell ⟨go17,(t274 : Int).toNat,none⟩ (.int .i64 a4))) ?hg ?ho ?hn ?hr ?_;(case ho => rfl);(case hg => rfl);(case hn => rfl);(case hr => first | (go_simp;done) | (go_simp;rfl));intro w26 hw;have hg : w24.grownBy w26 (some go17):=(by rw [hw];exact HP25.2);have hp_ : Kd.R (Kd.int .i64) 3 w26 w.heap.size (fun _ => True) (.slice (some ⟨go17,0,none⟩) t276.length co17) y279:=(by rw [hw,Ny279.out];exact HP25.1);clear HP25;have n0_:=Aside0.mk (hp_);have n1_:=Aside0.mk ((by rw [hw];exact below_set (HB.out) GB17.out : Below w.heap.size w w26));clear HO278;clear HB;have HO278:=n0_;have HB:=n1_;clear n0_ n1_;clear hg hw hp_) | ((with_reducible refine gate_callee (f:=24) rfl ?_);refine goesL_ (some 35) rfl rfl Try.func24 (by kernel_rfl) rfl #[.slice A0 l0.length c0, .slice A1 l1.length c1, .slice (some ⟨go17,0,none⟩) y279.length co17] rfl (by (try simp only [List.map_toArray,List.map_cons,List.map_nil]);first | done | (rw [show y279.length = t276.length from (Kd.R_reads' HO278.out).1.symm] <;> rfl) | rfl | (simp only [List.length_drop,List.length_take];rfl)) ?_;(with_reducible refine (impl_IsValidLoading.calls kj6 _ _ l0 _ _ l1 _ _ y279 false _ ?side1 ?side2 ?side3 ?side4 ?side5 ?side6 A18.out).mono ?_);(case side1 => repeat (first | exact (Kd.C_below HR0.out HB.out) | (with_reducible refine Kd.C_alloc ?_ _) | (with_reducible refine Kd.C_drewN ?_ _) | (with_reducible refine Kd.C_drew ?_)));(case side2 => exact HC0.out);(case side3 => repeat (first | exact (Kd.C_below HR1.out HB.out) | (with_reducible refine Kd.C_alloc ?_ _) | (with_reducible refine Kd.C_drewN ?_ _) | (with_reducible refine Kd.C_drew ?_)));(case side4 => exact HC1.out);(case side5 => repeat (first | exact (Kd.R_reads' HO278.out).2.2 | (with_reducible refine Kd.C_alloc ?_ _) | (with_reducible refine Kd.C_drewN ?_ _) | (with_reducible refine Kd.C_drew ?_)));(case side6 => rw [show y279.length = t276.length from (Kd.R_reads' HO278.out).1.symm];exact (Kd.R_reads' HO278.out).2.1);rintro e w27 ⟨rfl,hb⟩;refine ⟨_,rfl, ?_⟩;have n0_:=Aside0.mk (Kd.R_below (by (with_reducible repeat (first | apply Kd.R_alloc | apply Kd.R_drewN | apply Kd.R_drew));exact HO278.out) hb);have n1_:=Aside0.mk (below_step (by repeat (first | (with_reducible first | exact HB.out | apply below_alloc | apply pw_below_drewN | apply below_drew1) | exact HB.out)) hb);clear HO278;clear HB;have HO278:=n0_;have HB:=n1_;clear n0_ n1_;(try clear hb);(try clear hb2);(try clear hk);(try clear hi)))
       go_ret2
       exact ⟨_,by first | rfl | (simp [errW_none,errW_some] <;> rfl) | (simp [*,errW_none,errW_some] <;> rfl),by first | exact Kd.R_nil _ _ _ _ _ | exact Kd.N_nil _ _ _ _ _ | exact Kd.V_nil _ _ _ _ _ | exact Kd.Q_nil _ _ _ _ _ | exact Kd.S_nil _ _ _ _ _,by repeat (first | (with_reducible first | exact HB.out | apply below_alloc | apply pw_below_drewN | apply below_drew1) | exact HB.out)⟩
     ·rw [if_neg c16] at H
      exact absurd H (by simp)
    ·rw [if_neg c15] at H
     exact absurd H (by simp)

end Go.Proofs.Ythfbnadlpninaaa.PFnExactMoveToWagon
