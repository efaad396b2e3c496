-- Written by a program of this session, over the kit's print (wip/xprint.py)
import Derived.Test.YtempmebpbbbkmaaPFnWagonsx0
import Derived.Test.YtempmebpbbbkmaaPFnWagonsx5
import Derived.Test.YtempmebpbbbkmaaPFnWagonsx6
import Derived.Test.YtempmebpbbbkmaaPFnWagonsx7
namespace Go.Proofs.Ytempmebpbbbkmaa.PFnWagons
open Go.RowKit Go.Proofs.YtempmebpbbbkmaaW.PrintWords Go.Proofs.YtempmebpbbbkmaaW.PrintLast Go.Proofs.YtempmebpbbbkmaaW.PrintMore
attribute [local go_sem] max2_int min2_int max_two min_two max_three min_three max_four min_four   -- for this text's walks alone
set_option linter.unusedVariables false
set_option linter.unusedSimpArgs false

/-! ### impl_IsValidLoading: function 9 -/
def impl_IsValidLoading.j0 : Nat → List (S33) → List Int → Bool → List (S60) → Option (Bool)
 | 0,_,_,_,_ => none
 | k + 1,x1,x2,x21,x452000 => if x21 = true then (some false) else ((slices_ContainsFunc_int.f k x2 x452000).bind fun t454 => (if t454 = true then (some false) else ((impl_isLoaded.f k x452000 x1 x2).bind fun t455 => (some t455))))
def impl_IsValidLoading.f (k : Nat) (l0 : List (S60)) (l1 : List (S33)) (l2 : List Int) : Option (Bool):=(impl_IsValidTrain.f k l0).bind fun t452 => (if t452 = true then ((impl_IsValidContainers.f k l1).bind fun t453 => (if t453 = true then (impl_IsValidLoading.j0 k l1 l2 ((l2.length : Int) != (l1.length : Int)) l0) else (impl_IsValidLoading.j0 k l1 l2 true l0))) else (impl_IsValidLoading.j0 k l1 l2 true l0))
theorem impl_IsValidLoading.mono_l : ∀ k,(∀ y0 y1 y2 y3,LeO (impl_IsValidLoading.j0 k y0 y1 y2 y3) (impl_IsValidLoading.j0 (k + 1) y0 y1 y2 y3))
 | 0 => fun _ _ _ _ r h => by simp [impl_IsValidLoading.j0] at h
 | k + 1 => by
  have ih0:=impl_IsValidLoading.mono_l k
  ·intro y0 y1 y2 y3
   unfold impl_IsValidLoading.j0
   repeat' first
   | (with_reducible exact ih0 _ _ _ _)
   | (with_reducible exact impl_IsValidContainers.mono _ _)
   | (with_reducible exact impl_IsValidTrain.mono _ _)
   | (with_reducible exact impl_isLoaded.mono _ _ _ _)
   | (with_reducible exact slices_ContainsFunc_int.mono _ _ _)
   | (with_reducible exact LeO.refl _)
   | (with_reducible exact LeO.none _)
   | (with_reducible refine LeO.ite ?_ ?_)
   | (with_reducible refine LeO.bind ?_ (fun _ => ?_))
   | exact ih0 _ _ _ _
   | exact impl_IsValidContainers.mono _ _
   | exact impl_IsValidTrain.mono _ _
   | exact impl_isLoaded.mono _ _ _ _
   | exact slices_ContainsFunc_int.mono _ _ _
   | exact LeO.none _
   | refine LeO.ite ?_ ?_
   | refine LeO.bind ?_ (fun _ => ?_)
theorem impl_IsValidLoading.mono : ∀ a0 a1 a2 k,LeO (impl_IsValidLoading.f k a0 a1 a2) (impl_IsValidLoading.f (k + 1) a0 a1 a2):=by
 intro a0 a1 a2 k
 have ih0:=impl_IsValidLoading.mono_l k
 unfold impl_IsValidLoading.f
 repeat' first
   | (with_reducible exact ih0 _ _ _ _)
   | (with_reducible exact impl_IsValidContainers.mono _ _)
   | (with_reducible exact impl_IsValidTrain.mono _ _)
   | (with_reducible exact impl_isLoaded.mono _ _ _ _)
   | (with_reducible exact slices_ContainsFunc_int.mono _ _ _)
   | (with_reducible exact LeO.refl _)
   | (with_reducible exact LeO.none _)
   | (with_reducible refine LeO.ite ?_ ?_)
   | (with_reducible refine LeO.bind ?_ (fun _ => ?_))
   | exact ih0 _ _ _ _
   | exact impl_IsValidContainers.mono _ _
   | exact impl_IsValidTrain.mono _ _
   | exact impl_isLoaded.mono _ _ _ _
   | exact slices_ContainsFunc_int.mono _ _ _
   | exact LeO.none _
   | refine LeO.ite ?_ ?_
   | refine LeO.bind ?_ (fun _ => ?_)
set_option maxHeartbeats 8000000 in
set_option maxRecDepth 100000 in
theorem impl_IsValidLoading.calls (k : Nat) (A0 : Option Addr) (c0 : Nat) (l0 : List (S60)) (A1 : Option Addr) (c1 : Nat) (l1 : List (S33)) (A2 : Option Addr) (c2 : Nat) (l2 : List Int) (r : Bool) (w : World) (hr0 : Kd.C k60 w A0 l0.length l0) (hc0 : l0.length ≤ c0) (hr1 : Kd.C k33 w A1 l1.length l1) (hc1 : l1.length ≤ c1) (hr2 : Kd.C (Kd.int .i64) w A2 l2.length l2) (hc2 : l2.length ≤ c2) (h : impl_IsValidLoading.f k l0 l1 l2 = some r) :
  Calls Try.prog 9 #[.slice A0 l0.length c0, .slice A1 l1.length c1, .slice A2 l2.length c2] w fun e w' => e = .returned (.bool r) ∧ Below w.heap.size w w':=by
 have HR0:=Aside0.mk hr0
 have HC0:=Aside0.mk hc0
 clear hr0 hc0
 have HR1:=Aside0.mk hr1
 have HC1:=Aside0.mk hc1
 clear hr1 hc1
 have HR2:=Aside0.mk hr2
 have HC2:=Aside0.mk hc2
 clear hr2 hc2
 have HB:=Aside0.mk (Below.refl w.heap.size w)
 have H : ((impl_IsValidTrain.f k l0).bind fun t452 => (if t452 = true then ((impl_IsValidContainers.f k l1).bind fun t453 => (if t453 = true then (impl_IsValidLoading.j0 k l1 l2 ((l2.length : Int) != (l1.length : Int)) l0) else (impl_IsValidLoading.j0 k l1 l2 true l0))) else (impl_IsValidLoading.j0 k l1 l2 true l0))) = some r:=h
 clear h
 have HC4:=Aside0.mk H
 clear H
 go_enter Try.func9,Try.ntmps9
 go_upto_region 1 with (((with_reducible refine gate_dst (N:=3) rfl ?_);(try (refine gate_guard (by rfl) ?_;dsimp only));refine box_event ?hg (N:=3) ?hd (cs:=#[.slice A0 l0.length c0]) (t:=24) ?hr ?_;(case hd => rfl);(case hg => rfl);(case hr => (go_simp;done));intro gb451 hg w5 hbox hb;have n0_:=Aside0.mk (below_step (by exact HB.out) hb);have n1_:=Aside0.mk (hbox);have n2_:=Aside0.mk ((by rw [hg];exact (below_size (by exact HB.out)) : w.heap.size ≤ gb451));have n3_:=Aside0.mk ((by rw [hg];exact (below_size (by exact HB.out)) : w.heap.size ≤ gb451));clear HB;have HB:=n0_;have BK451:=n1_;have GW451:=n2_;have GE451:=n3_;clear n0_ n1_ n2_ n3_;clear hb hbox hg))
 (skip)
 go_cut [21] (fun v21 wc => ∃ (kq : Nat) (x21_3 : Bool),v21 = .bool x21_3 ∧ Aside0 (impl_IsValidLoading.j0 kq l1 l2 x21_3 l0 = some r) ∧ Aside0 (kq ≤ k) ∧ Aside0 (wc.heap[gb451]? = some (.cells #[(.slice A0 l0.length c0)] 24 (0,0))) ∧ Aside0 (Below w.heap.size w wc))
 case first =>
  have H:=HC4.out
  clear HC4
  replace H:=Option.bind_eq_some_iff.mp H
  obtain ⟨t452,A60,H⟩ := H
  replace H : (if t452 = true then ((impl_IsValidContainers.f k l1).bind fun t453 => (if t453 = true then (impl_IsValidLoading.j0 k l1 l2 ((l2.length : Int) != (l1.length : Int)) l0) else (impl_IsValidLoading.j0 k l1 l2 true l0))) else (impl_IsValidLoading.j0 k l1 l2 true l0)) = some r:=H
  have A6:=Aside0.mk A60
  clear A60
  by_cases c7 : t452 = true
  ·subst c7
   have H1 : ((impl_IsValidContainers.f k l1).bind fun t453 => (if t453 = true then (impl_IsValidLoading.j0 k l1 l2 ((l2.length : Int) != (l1.length : Int)) l0) else (impl_IsValidLoading.j0 k l1 l2 true l0))) = some r:=by rw [if_pos rfl] at H;exact H
   clear H
   have H:=H1
   clear H1
   replace H:=Option.bind_eq_some_iff.mp H
   obtain ⟨t453,A80,H⟩ := H
   replace H : (if t453 = true then (impl_IsValidLoading.j0 k l1 l2 ((l2.length : Int) != (l1.length : Int)) l0) else (impl_IsValidLoading.j0 k l1 l2 true l0)) = some r:=H
   have A8:=Aside0.mk A80
   clear A80
   by_cases c9 : t453 = true
   ·subst c9
    have H1 : (impl_IsValidLoading.j0 k l1 l2 ((l2.length : Int) != (l1.length : Int)) l0) = some r:=by rw [if_pos rfl] at H;exact H
    clear H
    have H:=H1
    clear H1
    have H':=Aside0.mk H
    clear H
    have hcz10_0 : w5.cell? ⟨gb451,0,none⟩ = some (.slice A0 l0.length c0):=(blk_cell BK451.out 0).trans rfl
    have hfz10_0:=blk_frozen BK451.out 0
    go_wp2_with (first | ((with_reducible refine gate_callee (f:=27) rfl ?_);refine goesL_ (some 8) rfl rfl Try.func27 (by kernel_rfl) rfl #[.slice A0 l0.length c0] rfl (by (try simp only [List.map_toArray,List.map_cons,List.map_nil]);rfl) ?_;(with_reducible refine (impl_IsValidTrain.calls k _ _ l0 true _ ?side1 ?side2 A6.out).mono ?_);(case side1 => repeat (exact (Kd.C_below HR0.out HB.out)));(case side2 => exact HC0.out);rintro e w11 ⟨rfl,hb⟩;refine ⟨_,rfl, ?_⟩;have n0_:=Aside0.mk (blk_below (g:=gb451) (o := .cells #[.slice A0 l0.length c0] 24 (0,0)) (by exact BK451.out) hb);have n1_:=Aside0.mk (below_step (by exact HB.out) hb);clear BK451;clear HB;have BK451:=n0_;have HB:=n1_;clear n0_ n1_;(try clear hb)) | (go_at_call 28;(with_reducible refine (impl_IsValidContainers.calls k _ _ l1 true _ ?side1 ?side2 A8.out).mono ?_);(case side1 => repeat (exact (Kd.C_below HR1.out HB.out)));(case side2 => exact HC1.out);rintro e w12 ⟨rfl,hb⟩;have n0_:=Aside0.mk (blk_below (g:=gb451) (o := .cells #[.slice A0 l0.length c0] 24 (0,0)) (by exact BK451.out) hb);have n1_:=Aside0.mk (below_step (by exact HB.out) hb);clear BK451;clear HB;have BK451:=n0_;have HB:=n1_;clear n0_ n1_;(try clear hb)))
    go_meet
    case rel => exact ⟨_,(((l2.length : Int) != (l1.length : Int))),(by rfl),H',⟨by omega⟩,⟨by exact BK451.out⟩,⟨by exact HB.out⟩⟩
   ·replace c9:=Bool.eq_false_iff.mpr c9
    subst c9
    have H1 : (impl_IsValidLoading.j0 k l1 l2 true l0) = some r:=by rw [if_neg (show ¬ (false = true) by decide)] at H;exact H
    clear H
    have H:=H1
    clear H1
    have H':=Aside0.mk H
    clear H
    have hcz13_0 : w5.cell? ⟨gb451,0,none⟩ = some (.slice A0 l0.length c0):=(blk_cell BK451.out 0).trans rfl
    have hfz13_0:=blk_frozen BK451.out 0
    go_wp2_with (first | ((with_reducible refine gate_callee (f:=27) rfl ?_);refine goesL_ (some 8) rfl rfl Try.func27 (by kernel_rfl) rfl #[.slice A0 l0.length c0] rfl (by (try simp only [List.map_toArray,List.map_cons,List.map_nil]);rfl) ?_;(with_reducible refine (impl_IsValidTrain.calls k _ _ l0 true _ ?side1 ?side2 A6.out).mono ?_);(case side1 => repeat (exact (Kd.C_below HR0.out HB.out)));(case side2 => exact HC0.out);rintro e w14 ⟨rfl,hb⟩;refine ⟨_,rfl, ?_⟩;have n0_:=Aside0.mk (blk_below (g:=gb451) (o := .cells #[.slice A0 l0.length c0] 24 (0,0)) (by exact BK451.out) hb);have n1_:=Aside0.mk (below_step (by exact HB.out) hb);clear BK451;clear HB;have BK451:=n0_;have HB:=n1_;clear n0_ n1_;(try clear hb)) | (go_at_call 28;(with_reducible refine (impl_IsValidContainers.calls k _ _ l1 false _ ?side1 ?side2 A8.out).mono ?_);(case side1 => repeat (exact (Kd.C_below HR1.out HB.out)));(case side2 => exact HC1.out);rintro e w15 ⟨rfl,hb⟩;have n0_:=Aside0.mk (blk_below (g:=gb451) (o := .cells #[.slice A0 l0.length c0] 24 (0,0)) (by exact BK451.out) hb);have n1_:=Aside0.mk (below_step (by exact HB.out) hb);clear BK451;clear HB;have BK451:=n0_;have HB:=n1_;clear n0_ n1_;(try clear hb)))
    go_meet
    case rel => exact ⟨_,(true),(by rfl),H',⟨by omega⟩,⟨by exact BK451.out⟩,⟨by exact HB.out⟩⟩
  ·replace c7:=Bool.eq_false_iff.mpr c7
   subst c7
   have H1 : (impl_IsValidLoading.j0 k l1 l2 true l0) = some r:=by rw [if_neg (show ¬ (false = true) by decide)] at H;exact H
   clear H
   have H:=H1
   clear H1
   have H':=Aside0.mk H
   clear H
   have hcz16_0 : w5.cell? ⟨gb451,0,none⟩ = some (.slice A0 l0.length c0):=(blk_cell BK451.out 0).trans rfl
   have hfz16_0:=blk_frozen BK451.out 0
   go_wp2_with (((with_reducible refine gate_callee (f:=27) rfl ?_);refine goesL_ (some 8) rfl rfl Try.func27 (by kernel_rfl) rfl #[.slice A0 l0.length c0] rfl (by (try simp only [List.map_toArray,List.map_cons,List.map_nil]);rfl) ?_;(with_reducible refine (impl_IsValidTrain.calls k _ _ l0 false _ ?side1 ?side2 A6.out).mono ?_);(case side1 => repeat (exact (Kd.C_below HR0.out HB.out)));(case side2 => exact HC0.out);rintro e w17 ⟨rfl,hb⟩;refine ⟨_,rfl, ?_⟩;have n0_:=Aside0.mk (blk_below (g:=gb451) (o := .cells #[.slice A0 l0.length c0] 24 (0,0)) (by exact BK451.out) hb);have n1_:=Aside0.mk (below_step (by exact HB.out) hb);clear BK451;clear HB;have BK451:=n0_;have HB:=n1_;clear n0_ n1_;(try clear hb)))
   go_meet
   case rel => exact ⟨_,(true),(by rfl),H',⟨by omega⟩,⟨by exact BK451.out⟩,⟨by exact HB.out⟩⟩
 case rest =>
  clear HC4
  try clear c1
  try clear c2
  try clear p2
  try clear c7
  try clear c9
  try clear hcz10_0
  try clear hcz13_0
  try clear hcz16_0
  try clear hfz10_0
  try clear hfz13_0
  try clear hfz16_0
  obtain ⟨kq,x21_3,rfl,HA,HJ3,BK451,HB⟩ := hcut
  cases kq with
  | zero => exact absurd HA.out (by simp [impl_IsValidLoading.j0])
  | succ kj3 =>
   have H:=HA.out
   clear HA
   simp only [impl_IsValidLoading.j0] at H
   by_cases c18 : x21_3 = true
   ·subst c18
    have H1 : (some false) = some r:=by rw [if_pos rfl] at H;exact H
    clear H
    have H:=H1
    clear H1
    obtain rfl:=Option.some.inj H
    go_wp2
    go_ret
    exact ⟨by rfl,by exact HB.out⟩
   ·replace c18:=Bool.eq_false_iff.mpr c18
    subst c18
    have H1 : ((slices_ContainsFunc_int.f kj3 l2 l0).bind fun t454 => (if t454 = true then (some false) else ((impl_isLoaded.f kj3 l0 l1 l2).bind fun t455 => (some t455)))) = some r:=by rw [if_neg (show ¬ (false = true) by decide)] at H;exact H
    clear H
    have H:=H1
    clear H1
    replace H:=Option.bind_eq_some_iff.mp H
    obtain ⟨t454,A190,H⟩ := H
    replace H : (if t454 = true then (some false) else ((impl_isLoaded.f kj3 l0 l1 l2).bind fun t455 => (some t455))) = some r:=H
    have A19:=Aside0.mk A190
    clear A190
    by_cases c20 : t454 = true
    ·subst c20
     have H1 : (some false) = some r:=by rw [if_pos rfl] at H;exact H
     clear H
     have H:=H1
     clear H1
     obtain rfl:=Option.some.inj H
     go_wp2_with (((with_reducible refine gate_callee (f:=29) rfl ?_);refine goesL_ (some 24) rfl rfl Try.func29 (by kernel_rfl) rfl #[.slice A2 l2.length c2,(.func (.func 30) #[] #[.pointer (some ⟨gb451,0,none⟩)])] rfl (by (try simp only [List.map_toArray,List.map_cons,List.map_nil]);rfl) ?_;(with_reducible refine (slices_ContainsFunc_int.calls (hg1_0:=?sg0) kj3 _ _ l2 A0 c0 l0 true _ ?side1 ?side2 ?side3 ?side4 A19.out).mono ?_);(case sg0 => exact (blk_cell (by exact BK451.out) 0).trans rfl);(case side1 => repeat (exact (Kd.C_below HR2.out HB.out)));(case side2 => exact HC2.out);(case side3 => repeat (exact (Kd.C_below HR0.out HB.out)));(case side4 => exact HC0.out);rintro e w21 ⟨rfl,hb⟩;refine ⟨_,rfl, ?_⟩;have n0_:=Aside0.mk (blk_below (g:=gb451) (o := .cells #[.slice A0 l0.length c0] 24 (0,0)) (by exact BK451.out) hb);have n1_:=Aside0.mk (below_step (by exact HB.out) hb);clear BK451;clear HB;have BK451:=n0_;have HB:=n1_;clear n0_ n1_;(try clear hb)))
     go_ret
     exact ⟨by rfl,by exact HB.out⟩
    ·replace c20:=Bool.eq_false_iff.mpr c20
     subst c20
     have H1 : ((impl_isLoaded.f kj3 l0 l1 l2).bind fun t455 => (some t455)) = some r:=by rw [if_neg (show ¬ (false = true) by decide)] at H;exact H
     clear H
     have H:=H1
     clear H1
     replace H:=Option.bind_eq_some_iff.mp H
     obtain ⟨t455,A220,H⟩ := H
     replace H : (some t455) = some r:=H
     have A22:=Aside0.mk A220
     clear A220
     obtain rfl:=Option.some.inj H
     go_wp2_with (first | ((with_reducible refine gate_callee (f:=29) rfl ?_);refine goesL_ (some 24) rfl rfl Try.func29 (by kernel_rfl) rfl #[.slice A2 l2.length c2,(.func (.func 30) #[] #[.pointer (some ⟨gb451,0,none⟩)])] rfl (by (try simp only [List.map_toArray,List.map_cons,List.map_nil]);rfl) ?_;(with_reducible refine (slices_ContainsFunc_int.calls (hg1_0:=?sg0) kj3 _ _ l2 A0 c0 l0 false _ ?side1 ?side2 ?side3 ?side4 A19.out).mono ?_);(case sg0 => exact (blk_cell (by exact BK451.out) 0).trans rfl);(case side1 => repeat (exact (Kd.C_below HR2.out HB.out)));(case side2 => exact HC2.out);(case side3 => repeat (exact (Kd.C_below HR0.out HB.out)));(case side4 => exact HC0.out);rintro e w23 ⟨rfl,hb⟩;refine ⟨_,rfl, ?_⟩;have n0_:=Aside0.mk (blk_below (g:=gb451) (o := .cells #[.slice A0 l0.length c0] 24 (0,0)) (by exact BK451.out) hb);have n1_:=Aside0.mk (below_step (by exact HB.out) hb);clear BK451;clear HB;have BK451:=n0_;have HB:=n1_;clear n0_ n1_;(try clear hb);have hcz24_0 : w23.cell? ⟨gb451,0,none⟩ = some (.slice A0 l0.length c0):=(blk_cell BK451.out 0).trans rfl;have hfz24_0:=blk_frozen BK451.out 0) | ((with_reducible refine gate_callee (f:=32) rfl ?_);refine goesL_ (some 28) rfl rfl Try.func32 (by kernel_rfl) rfl #[.slice A0 l0.length c0, .slice A1 l1.length c1, .slice A2 l2.length c2] rfl (by (try simp only [List.map_toArray,List.map_cons,List.map_nil]);rfl) ?_;(with_reducible refine (impl_isLoaded.calls kj3 _ _ l0 _ _ l1 _ _ l2 t455 _ ?side1 ?side2 ?side3 ?side4 ?side5 ?side6 A22.out).mono ?_);(case side1 => repeat (exact (Kd.C_below HR0.out HB.out)));(case side2 => exact HC0.out);(case side3 => repeat (exact (Kd.C_below HR1.out HB.out)));(case side4 => exact HC1.out);(case side5 => repeat (exact (Kd.C_below HR2.out HB.out)));(case side6 => exact HC2.out);rintro e w25 ⟨rfl,hb⟩;refine ⟨_,rfl, ?_⟩;have n0_:=Aside0.mk (blk_below (g:=gb451) (o := .cells #[.slice A0 l0.length c0] 24 (0,0)) (by exact BK451.out) hb);have n1_:=Aside0.mk (below_step (by exact HB.out) hb);clear BK451;clear HB;have BK451:=n0_;have HB:=n1_;clear n0_ n1_;(try clear hb)))
     go_ret
     exact ⟨by rfl,by exact HB.out⟩

/-! ### slices_Clone_int: function 23 -/
def slices_Clone_int.f (l0 : List Int) : Option (List Int):=(some (([] : List Int) : List Int)).bind fun y456 => (if y456.length + l0.length < 17592186044416 then (some (y456 ++ l0)) else (none))
set_option maxHeartbeats 8000000 in
set_option maxRecDepth 100000 in
theorem slices_Clone_int.calls (A0 : Option Addr) (c0 : Nat) (l0 : List Int) (r : List Int) (w : World) (hr0 : Kd.C (Kd.int .i64) w A0 l0.length l0) (hc0 : l0.length ≤ c0) (h : slices_Clone_int.f l0 = some r) :
  Calls Try.prog 23 #[.slice A0 l0.length c0] w fun e w' => ∃ v0_ : Value,e = .returned (v0_) ∧ Kd.R (Kd.int .i64) 3 w' w.heap.size (fun _ => True) v0_ r ∧ Below w.heap.size w w':=by
 have HR0:=Aside0.mk hr0
 have HC0:=Aside0.mk hc0
 clear hr0 hc0
 have HB:=Aside0.mk (Below.refl w.heap.size w)
 have H : ((some (([] : List Int) : List Int)).bind fun y456 => (if y456.length + l0.length < 17592186044416 then (some (y456 ++ l0)) else (none))) = some r:=h
 clear h
 obtain ⟨y456,hy456⟩ : ∃ y_ : List Int,y_ = (([] : List Int)):=⟨_,rfl⟩
 replace H : (if y456.length + l0.length < 17592186044416 then (some (y456 ++ l0)) else (none)) = some r:=by (have H2_:=(Option.bind_some _ _).symm.trans H;rw [hy456];with_reducible exact H2_)
 have Ny456:=Aside0.mk hy456
 clear hy456
 by_cases c2 : y456.length + l0.length < 17592186044416
 ·rw [if_pos c2] at H
  have LMc2:=Aside0.mk c2
  clear c2
  obtain ⟨y459,hy459⟩ : ∃ y_ : List Int,y_ = (y456 ++ l0):=⟨_,rfl⟩
  replace H : (some y459) = some r:=by (rw [hy459];with_reducible exact H)
  have Ny459:=Aside0.mk hy459
  clear hy459
  obtain rfl:=Option.some.inj H
  have hnil_:=fun (w_ : World) (a_ : Option Addr) (n_ c_ : Nat) => Lib.run_eql_slice_nil (P:=Try.prog) w_ 26 3 a_ n_ c_ 0 0 Try.underlying26
  rcases A0 with _ | ad0_
  ·have l0nil : l0 = []:=by
    rcases l0 with _ | ⟨x_,l_⟩
    ·rfl
    ·obtain ⟨ad_,e_,_⟩ := HR0.out.2.2 (by simp)
     cases e_
   have rnil : y459 = []:=by rw [Ny459.out,Ny456.out,l0nil];rfl
   subst rnil
   subst l0nil
   go_enter Try.func23,Try.ntmps23
   go_wp2
   go_ret
   exact ⟨_,rfl,Kd.R_nil _ _ _ _ _,Below.refl _ _⟩
  ·go_enter Try.func23,Try.ntmps23
   go_wp2_with (first | ((with_reducible refine gate_dst (N:=5) rfl ?_);refine Kd.R_lit (Kd.int .i64) _ 3 ?hg (N:=5) ?hd (xs:=([] : List Int)) (inner := []) (ok:=fun _ => True) (okp:=fun _ => True) ?hr ?hp (fun _ hk => hk) trivial (Below.refl _ _) (Nat.le_refl _) (by simp) ?_;(case hd => rfl);(case hg => rfl);(case hr => (go_simp;done));(case hp => exact (Reps.none _ _));intro v457 w3 ho4 hb hg_ hnew_;clear hg_ hnew_;(rw [← Ny456.out] at ho4);have n0_:=Aside0.mk (Kd.R_lower ho4 (below_size (by exact HB.out)));have n1_:=Aside0.mk (below_step (by exact HB.out) hb);clear HB;have HO458:=n0_;have HB:=n1_;clear n0_ n1_;clear hb ho4) | ((with_reducible refine gate_builtin (b := .append) (xs:=#[.tmp 5, .tmp 6]) rfl ?_);at_builtin;refine Kd.R_append_rows (Kd.int .i64) (w0:=w) w.heap.size rfl (.tmp 5) (.tmp 6) 26 3 (.int .i64 0) 8 rfl Try.underlying26 info3 rfl (by decide) (by omega) v457 y456 l0 _ _ _ (fun _ => True) (fun _ => False) rfl rfl ?aO ?aR (fun _ _ h => h) (fun _ h => h.elim) ?aF ?aB ?aS ?aL ?_;(case aR => repeat (exact (Kd.C_below HR0.out HB.out)));(case aB => exact (by exact HB.out));(case aF => exact (fun _ _ => trivial));(case aO => exact (by exact HO458.out));(case aS => exact (below_size (by exact HB.out)));(case aL => have:=LMc2.out;omega);intro v460 w5 ho hb hg hat;rw [← Ny459.out] at ho;have n0_:=Aside0.mk (hb);have n1_:=Aside0.mk (ho);clear HB;clear HO458;have HB:=n0_;have HO461:=n1_;clear n0_ n1_;clear ho hb hg hat))
   go_ret
   exact ⟨_,by rfl,by exact HO461.out,by exact HB.out⟩
 ·rw [if_neg c2] at H
  exact absurd H (by simp)

/-! ### impl_MoveToWagon: function 6 -/
def impl_MoveToWagon.j0 : Nat → List (S60) → List (S33) → List Int → Int → Int → Bool → Option (List Int × Bool)
 | 0,_,_,_,_,_,_ => none
 | k + 1,x0,x1,x2,x4,x12,x25 => if x25 = true then (some (([] : List Int),false)) else ((slices_Clone_int.f x2).bind fun t464 => (if 0 ≤ x12 then (if x12 < (t464.length : Int) then ((some (t464.set (x12 : Int).toNat x4 : List Int)).bind fun y467 => ((impl_IsValidLoading.f k x0 x1 y467).bind fun t468 => (if t468 = true then (some (y467,true)) else (some (([] : List Int),false))))) else (none)) else (none)))
def impl_MoveToWagon.f (k : Nat) (l0 : List (S60)) (l1 : List (S33)) (l2 : List Int) (a3 : ByteArray) (a4 : Int) : Option (List Int × Bool):=(impl_indexOf.f k l1 a3).bind fun t462 => ((impl_IsValidLoading.f k l0 l1 l2).bind fun t463 => (if t463 = true then (impl_MoveToWagon.j0 k l0 l1 l2 a4 t462 (decide (t462 < 0))) else (impl_MoveToWagon.j0 k l0 l1 l2 a4 t462 true)))
theorem impl_MoveToWagon.mono_l : ∀ k,(∀ y0 y1 y2 y3 y4 y5,LeO (impl_MoveToWagon.j0 k y0 y1 y2 y3 y4 y5) (impl_MoveToWagon.j0 (k + 1) y0 y1 y2 y3 y4 y5))
 | 0 => fun _ _ _ _ _ _ r h => by simp [impl_MoveToWagon.j0] at h
 | k + 1 => by
  have ih0:=impl_MoveToWagon.mono_l k
  ·intro y0 y1 y2 y3 y4 y5
   unfold impl_MoveToWagon.j0
   repeat' first
   | (with_reducible exact ih0 _ _ _ _ _ _)
   | (with_reducible exact impl_IsValidLoading.mono _ _ _ _)
   | (with_reducible exact impl_indexOf.mono _ _ _)
   | (with_reducible exact LeO.refl _)
   | (with_reducible exact LeO.none _)
   | (with_reducible refine LeO.ite ?_ ?_)
   | (with_reducible refine LeO.bind ?_ (fun _ => ?_))
   | exact ih0 _ _ _ _ _ _
   | exact impl_IsValidLoading.mono _ _ _ _
   | exact impl_indexOf.mono _ _ _
   | exact LeO.none _
   | refine LeO.ite ?_ ?_
   | refine LeO.bind ?_ (fun _ => ?_)
theorem impl_MoveToWagon.mono : ∀ a0 a1 a2 a3 a4 k,LeO (impl_MoveToWagon.f k a0 a1 a2 a3 a4) (impl_MoveToWagon.f (k + 1) a0 a1 a2 a3 a4):=by
 intro a0 a1 a2 a3 a4 k
 have ih0:=impl_MoveToWagon.mono_l k
 unfold impl_MoveToWagon.f
 repeat' first
   | (with_reducible exact ih0 _ _ _ _ _ _)
   | (with_reducible exact impl_IsValidLoading.mono _ _ _ _)
   | (with_reducible exact impl_indexOf.mono _ _ _)
   | (with_reducible exact LeO.refl _)
   | (with_reducible exact LeO.none _)
   | (with_reducible refine LeO.ite ?_ ?_)
   | (with_reducible refine LeO.bind ?_ (fun _ => ?_))
   | exact ih0 _ _ _ _ _ _
   | exact impl_IsValidLoading.mono _ _ _ _
   | exact impl_indexOf.mono _ _ _
   | exact LeO.none _
   | refine LeO.ite ?_ ?_
   | refine LeO.bind ?_ (fun _ => ?_)
set_option maxHeartbeats 8000000 in
set_option maxRecDepth 100000 in
theorem impl_MoveToWagon.calls (k : Nat) (A0 : Option Addr) (c0 : Nat) (l0 : List (S60)) (A1 : Option Addr) (c1 : Nat) (l1 : List (S33)) (A2 : Option Addr) (c2 : Nat) (l2 : List Int) (a3 : ByteArray) (a4 : Int) (r1 : List Int) (r2 : Bool) (w : World) (hr0 : Kd.C k60 w A0 l0.length l0) (hc0 : l0.length ≤ c0) (hr1 : Kd.C k33 w A1 l1.length l1) (hc1 : l1.length ≤ c1) (hr2 : Kd.C (Kd.int .i64) w A2 l2.length l2) (hc2 : l2.length ≤ c2) (h : impl_MoveToWagon.f k l0 l1 l2 a3 a4 = some (r1,r2)) :
  Calls Try.prog 6 #[.slice A0 l0.length c0, .slice A1 l1.length c1, .slice A2 l2.length c2, .string a3, .int .i64 a4] w fun e w' => ∃ v0_ : Value,e = .returned (.tuple #[v0_, .bool r2]) ∧ Kd.R (Kd.int .i64) 3 w' w.heap.size (fun _ => True) v0_ r1 ∧ Below w.heap.size w w':=by
 have HR0:=Aside0.mk hr0
 have HC0:=Aside0.mk hc0
 clear hr0 hc0
 have HR1:=Aside0.mk hr1
 have HC1:=Aside0.mk hc1
 clear hr1 hc1
 have HR2:=Aside0.mk hr2
 have HC2:=Aside0.mk hc2
 clear hr2 hc2
 have HB:=Aside0.mk (Below.refl w.heap.size w)
 have H : ((impl_indexOf.f k l1 a3).bind fun t462 => ((impl_IsValidLoading.f k l0 l1 l2).bind fun t463 => (if t463 = true then (impl_MoveToWagon.j0 k l0 l1 l2 a4 t462 (decide (t462 < 0))) else (impl_MoveToWagon.j0 k l0 l1 l2 a4 t462 true)))) = some (r1,r2):=h
 clear h
 replace H:=Option.bind_eq_some_iff.mp H
 obtain ⟨t462,A60,H⟩ := H
 replace H : ((impl_IsValidLoading.f k l0 l1 l2).bind fun t463 => (if t463 = true then (impl_MoveToWagon.j0 k l0 l1 l2 a4 t462 (decide (t462 < 0))) else (impl_MoveToWagon.j0 k l0 l1 l2 a4 t462 true))) = some (r1,r2):=H
 have A6:=Aside0.mk A60
 clear A60
 have HC7:=Aside0.mk H
 clear H
 go_enter Try.func6,Try.ntmps6
 go_upto_region 2 with (((with_reducible refine gate_callee (f:=22) rfl ?_);refine goesL_ (some 16) rfl rfl Try.func22 (by kernel_rfl) rfl #[.slice A1 l1.length c1, .string a3] rfl (by (try simp only [List.map_toArray,List.map_cons,List.map_nil]);rfl) ?_;(with_reducible refine (impl_indexOf.calls k _ _ l1 a3 t462 _ ?side1 ?side2 A6.out).mono ?_);(case side1 => repeat (exact HR1.out));(case side2 => exact HC1.out);rintro e w8 ⟨rfl,hb⟩;refine ⟨_,rfl, ?_⟩;have n0_:=Aside0.mk (below_step (by exact HB.out) hb);clear HB;have HB:=n0_;clear n0_;(try clear hb)))
 (skip)
 go_cut [25] (fun v25 wc => ∃ (kq : Nat) (x25_6 : Bool),v25 = .bool x25_6 ∧ Aside0 (impl_MoveToWagon.j0 kq l0 l1 l2 a4 t462 x25_6 = some (r1,r2)) ∧ Aside0 (kq ≤ k) ∧ Aside0 (Below w.heap.size w wc))
 case first =>
  have H:=HC7.out
  clear HC7
  replace H:=Option.bind_eq_some_iff.mp H
  obtain ⟨t463,A90,H⟩ := H
  replace H : (if t463 = true then (impl_MoveToWagon.j0 k l0 l1 l2 a4 t462 (decide (t462 < 0))) else (impl_MoveToWagon.j0 k l0 l1 l2 a4 t462 true)) = some (r1,r2):=H
  have A9:=Aside0.mk A90
  clear A90
  by_cases c10 : t463 = true
  ·subst c10
   have H1 : (impl_MoveToWagon.j0 k l0 l1 l2 a4 t462 (decide (t462 < 0))) = some (r1,r2):=by rw [if_pos rfl] at H;exact H
   clear H
   have H:=H1
   clear H1
   have H':=Aside0.mk H
   clear H
   go_wp2_with (((with_reducible refine gate_callee (f:=9) rfl ?_);refine goesL_ (some 20) rfl rfl Try.func9 (by kernel_rfl) rfl #[.slice A0 l0.length c0, .slice A1 l1.length c1, .slice A2 l2.length c2] rfl (by (try simp only [List.map_toArray,List.map_cons,List.map_nil]);rfl) ?_;(with_reducible refine (impl_IsValidLoading.calls k _ _ l0 _ _ l1 _ _ l2 true _ ?side1 ?side2 ?side3 ?side4 ?side5 ?side6 A9.out).mono ?_);(case side1 => repeat (exact (Kd.C_below HR0.out HB.out)));(case side2 => exact HC0.out);(case side3 => repeat (exact (Kd.C_below HR1.out HB.out)));(case side4 => exact HC1.out);(case side5 => repeat (exact (Kd.C_below HR2.out HB.out)));(case side6 => exact HC2.out);rintro e w11 ⟨rfl,hb⟩;refine ⟨_,rfl, ?_⟩;have n0_:=Aside0.mk (below_step (by exact HB.out) hb);clear HB;have HB:=n0_;clear n0_;(try clear hb)))
   go_meet
   case rel => exact ⟨_,(decide (t462 < 0)),(by rfl),H',⟨by omega⟩,⟨by exact HB.out⟩⟩
  ·replace c10:=Bool.eq_false_iff.mpr c10
   subst c10
   have H1 : (impl_MoveToWagon.j0 k l0 l1 l2 a4 t462 true) = some (r1,r2):=by rw [if_neg (show ¬ (false = true) by decide)] at H;exact H
   clear H
   have H:=H1
   clear H1
   have H':=Aside0.mk H
   clear H
   go_wp2_with (((with_reducible refine gate_callee (f:=9) rfl ?_);refine goesL_ (some 20) rfl rfl Try.func9 (by kernel_rfl) rfl #[.slice A0 l0.length c0, .slice A1 l1.length c1, .slice A2 l2.length c2] rfl (by (try simp only [List.map_toArray,List.map_cons,List.map_nil]);rfl) ?_;(with_reducible refine (impl_IsValidLoading.calls k _ _ l0 _ _ l1 _ _ l2 false _ ?side1 ?side2 ?side3 ?side4 ?side5 ?side6 A9.out).mono ?_);(case side1 => repeat (exact (Kd.C_below HR0.out HB.out)));(case side2 => exact HC0.out);(case side3 => repeat (exact (Kd.C_below HR1.out HB.out)));(case side4 => exact HC1.out);(case side5 => repeat (exact (Kd.C_below HR2.out HB.out)));(case side6 => exact HC2.out);rintro e w12 ⟨rfl,hb⟩;refine ⟨_,rfl, ?_⟩;have n0_:=Aside0.mk (below_step (by exact HB.out) hb);clear HB;have HB:=n0_;clear n0_;(try clear hb)))
   go_meet
   case rel => exact ⟨_,(true),(by rfl),H',⟨by omega⟩,⟨by exact HB.out⟩⟩
 case rest =>
  clear HC7
  try clear c1
  try clear c2
  try clear p2
  try clear c6
  try clear c9
  try clear c10
  obtain ⟨kq,x25_6,rfl,HA,HJ6,HB⟩ := hcut
  cases kq with
  | zero => exact absurd HA.out (by simp [impl_MoveToWagon.j0])
  | succ kj6 =>
   have H:=HA.out
   clear HA
   simp only [impl_MoveToWagon.j0] at H
   by_cases c13 : x25_6 = true
   ·subst c13
    have H1 : (some (([] : List Int),false)) = some (r1,r2):=by rw [if_pos rfl] at H;exact H
    clear H
    have H:=H1
    clear H1
    simp only [Option.some.injEq,Prod.mk.injEq] at H
    obtain ⟨rfl,rfl⟩ := H
    go_wp2
    go_ret2
    exact ⟨_,by rfl,by exact Kd.R_nil _ _ _ _ _,by exact HB.out⟩
   ·replace c13:=Bool.eq_false_iff.mpr c13
    subst c13
    have H1 : ((slices_Clone_int.f l2).bind fun t464 => (if 0 ≤ t462 then (if t462 < (t464.length : Int) then ((some (t464.set (t462 : Int).toNat a4 : List Int)).bind fun y467 => ((impl_IsValidLoading.f kj6 l0 l1 y467).bind fun t468 => (if t468 = true then (some (y467,true)) else (some (([] : List Int),false))))) else (none)) else (none))) = some (r1,r2):=by rw [if_neg (show ¬ (false = true) by decide)] at H;exact H
    clear H
    have H:=H1
    clear H1
    replace H:=Option.bind_eq_some_iff.mp H
    obtain ⟨t464,A140,H⟩ := H
    replace H : (if 0 ≤ t462 then (if t462 < (t464.length : Int) then ((some (t464.set (t462 : Int).toNat a4 : List Int)).bind fun y467 => ((impl_IsValidLoading.f kj6 l0 l1 y467).bind fun t468 => (if t468 = true then (some (y467,true)) else (some (([] : List Int),false))))) else (none)) else (none)) = some (r1,r2):=H
    have A14:=Aside0.mk A140
    clear A140
    by_cases c15 : 0 ≤ t462
    ·rw [if_pos c15] at H
     have c15b0 : decide (0 ≤ t462) = true:=decide_eq_true c15
     clear c15
     by_cases c16 : t462 < (t464.length : Int)
     ·rw [if_pos c16] at H
      have c16b0 : decide (t462 < (t464.length : Int)) = true:=decide_eq_true c16
      clear c16
      obtain ⟨y467,hy467⟩ : ∃ y_ : List Int,y_ = (t464.set (t462 : Int).toNat a4):=⟨_,rfl⟩
      replace H : ((impl_IsValidLoading.f kj6 l0 l1 y467).bind fun t468 => (if t468 = true then (some (y467,true)) else (some (([] : List Int),false)))) = some (r1,r2):=by (have H2_:=(Option.bind_some _ _).symm.trans H;rw [hy467];with_reducible exact H2_)
      have Ny467:=Aside0.mk hy467
      clear hy467
      replace H:=Option.bind_eq_some_iff.mp H
      obtain ⟨t468,A180,H⟩ := H
      replace H : (if t468 = true then (some (y467,true)) else (some (([] : List Int),false))) = some (r1,r2):=H
      have A18:=Aside0.mk A180
      clear A180
      by_cases c19 : t468 = true
      ·subst c19
       have H1 : (some (y467,true)) = some (r1,r2):=by rw [if_pos rfl] at H;exact H
       clear H
       have H:=H1
       clear H1
       simp only [Option.some.injEq,Prod.mk.injEq] at H
       obtain ⟨rfl,rfl⟩ := H
       go_wp2_with (first | ((with_reducible refine gate_callee (f:=23) rfl ?_);refine goesL_ (some 27) rfl rfl Try.func23 (by kernel_rfl) rfl #[.slice A2 l2.length c2] rfl (by (try simp only [List.map_toArray,List.map_cons,List.map_nil]);rfl) ?_;(with_reducible refine (slices_Clone_int.calls _ _ l2 t464 _ ?side1 ?side2 A14.out).mono ?_);(case side1 => repeat (exact (Kd.C_below HR2.out HB.out)));(case side2 => exact HC2.out);rintro e w20 ⟨v465,rfl,ho0,hb⟩;refine ⟨_,rfl, ?_⟩;have n0_:=Aside0.mk (Kd.R_lower ho0 (below_size (by exact HB.out)));have n1_:=Aside0.mk (below_step (by exact HB.out) hb);clear HB;have HO466:=n0_;have HB:=n1_;clear n0_ n1_;(try clear hb);(try clear ho0);have p17 : 0 ≤ (t462 : Int):=of_decide_eq_true (by (with_reducible assumption));have q17 : (t462 : Int) < ((t464.length : Int) : Int):=of_decide_eq_true (by (with_reducible assumption));obtain ⟨go17,co17,eo17,gb17,gl17,cl17,HG17⟩ := Kd.R_form HO466.out (by omega);(cases eo17);have GB17:=Aside0.mk gb17;have GG17:=Aside0.mk HG17;clear gb17 gl17 HG17;obtain ⟨hx17_0,hf17_0⟩ := Kd.R_celln 0 HO466.out (t462 : Int) p17 q17;replace p17:=eq_true p17;replace q17:=eq_true q17;obtain ⟨hy21_,hz21_⟩ := Kd.R_celln 0 HO466.out (t462 : Int) (of_decide_eq_true (by (with_reducible assumption))) (of_decide_eq_true (by (with_reducible assumption)));have HP21:=Kd.R_putg HO466.out (t462 : Int) a4) | ((with_reducible refine gate_store (t:=3) (p:=31) rfl ?_);refine store_event (t:=3) (p:=31) (v:=?vo_w22) (w1:=(w20.setCell ⟨go17,(t462 : Int).toNat,none⟩ (.int .i64 a4))) ?hg ?ho ?hn ?hr ?_;(case ho => rfl);(case hg => rfl);(case hn => rfl);(case hr => (go_simp;done));intro w22 hw;have hg : w20.grownBy w22 (some go17):=(by rw [hw];exact HP21.2);have hp_ : Kd.R (Kd.int .i64) 3 w22 w.heap.size (fun _ => True) (.slice (some ⟨go17,0,none⟩) t464.length co17) y467:=(by rw [hw,Ny467.out];exact HP21.1);clear HP21;have n0_:=Aside0.mk (hp_);have n1_:=Aside0.mk ((by rw [hw];exact below_set (HB.out) GB17.out : Below w.heap.size w w22));clear HO466;clear HB;have HO466:=n0_;have HB:=n1_;clear n0_ n1_;clear hg hw hp_) | ((with_reducible refine gate_callee (f:=9) rfl ?_);refine goesL_ (some 35) rfl rfl Try.func9 (by kernel_rfl) rfl #[.slice A0 l0.length c0, .slice A1 l1.length c1, .slice (some ⟨go17,0,none⟩) y467.length co17] rfl (by (try simp only [List.map_toArray,List.map_cons,List.map_nil]);(rw [show y467.length = t464.length from (Kd.R_reads' HO466.out).1.symm] <;> rfl)) ?_;(with_reducible refine (impl_IsValidLoading.calls kj6 _ _ l0 _ _ l1 _ _ y467 true _ ?side1 ?side2 ?side3 ?side4 ?side5 ?side6 A18.out).mono ?_);(case side1 => repeat (exact (Kd.C_below HR0.out HB.out)));(case side2 => exact HC0.out);(case side3 => repeat (exact (Kd.C_below HR1.out HB.out)));(case side4 => exact HC1.out);(case side5 => repeat (exact (Kd.R_reads' HO466.out).2.2));(case side6 => rw [show y467.length = t464.length from (Kd.R_reads' HO466.out).1.symm];exact (Kd.R_reads' HO466.out).2.1);rintro e w23 ⟨rfl,hb⟩;refine ⟨_,rfl, ?_⟩;have n0_:=Aside0.mk (Kd.R_below (by exact HO466.out) hb);have n1_:=Aside0.mk (below_step (by exact HB.out) hb);clear HO466;clear HB;have HO466:=n0_;have HB:=n1_;clear n0_ n1_;(try clear hb)))
       go_ret2
       exact ⟨_,by rfl,by exact HO466.out,by exact HB.out⟩
      ·replace c19:=Bool.eq_false_iff.mpr c19
       subst c19
       have H1 : (some (([] : List Int),false)) = some (r1,r2):=by rw [if_neg (show ¬ (false = true) by decide)] at H;exact H
       clear H
       have H:=H1
       clear H1
       simp only [Option.some.injEq,Prod.mk.injEq] at H
       obtain ⟨rfl,rfl⟩ := H
       go_wp2_with (first | ((with_reducible refine gate_callee (f:=23) rfl ?_);refine goesL_ (some 27) rfl rfl Try.func23 (by kernel_rfl) rfl #[.slice A2 l2.length c2] rfl (by (try simp only [List.map_toArray,List.map_cons,List.map_nil]);rfl) ?_;(with_reducible refine (slices_Clone_int.calls _ _ l2 t464 _ ?side1 ?side2 A14.out).mono ?_);(case side1 => repeat (exact (Kd.C_below HR2.out HB.out)));(case side2 => exact HC2.out);rintro e w24 ⟨v465,rfl,ho0,hb⟩;refine ⟨_,rfl, ?_⟩;have n0_:=Aside0.mk (Kd.R_lower ho0 (below_size (by exact HB.out)));have n1_:=Aside0.mk (below_step (by exact HB.out) hb);clear HB;have HO466:=n0_;have HB:=n1_;clear n0_ n1_;(try clear hb);(try clear ho0);have p17 : 0 ≤ (t462 : Int):=of_decide_eq_true (by (with_reducible assumption));have q17 : (t462 : Int) < ((t464.length : Int) : Int):=of_decide_eq_true (by (with_reducible assumption));obtain ⟨go17,co17,eo17,gb17,gl17,cl17,HG17⟩ := Kd.R_form HO466.out (by omega);(cases eo17);have GB17:=Aside0.mk gb17;have GG17:=Aside0.mk HG17;clear gb17 gl17 HG17;obtain ⟨hx17_0,hf17_0⟩ := Kd.R_celln 0 HO466.out (t462 : Int) p17 q17;replace p17:=eq_true p17;replace q17:=eq_true q17;obtain ⟨hy25_,hz25_⟩ := Kd.R_celln 0 HO466.out (t462 : Int) (of_decide_eq_true (by (with_reducible assumption))) (of_decide_eq_true (by (with_reducible assumption)));have HP25:=Kd.R_putg HO466.out (t462 : Int) a4) | ((with_reducible refine gate_store (t:=3) (p:=31) rfl ?_);refine store_event (t:=3) (p:=31) (v:=?vo_w26) (w1:=(w24.setCell ⟨go17,(t462 : Int).toNat,none⟩ (.int .i64 a4))) ?hg ?ho ?hn ?hr ?_;(case ho => rfl);(case hg => rfl);(case hn => rfl);(case hr => (go_simp;done));intro w26 hw;have hg : w24.grownBy w26 (some go17):=(by rw [hw];exact HP25.2);have hp_ : Kd.R (Kd.int .i64) 3 w26 w.heap.size (fun _ => True) (.slice (some ⟨go17,0,none⟩) t464.length co17) y467:=(by rw [hw,Ny467.out];exact HP25.1);clear HP25;have n0_:=Aside0.mk (hp_);have n1_:=Aside0.mk ((by rw [hw];exact below_set (HB.out) GB17.out : Below w.heap.size w w26));clear HO466;clear HB;have HO466:=n0_;have HB:=n1_;clear n0_ n1_;clear hg hw hp_) | ((with_reducible refine gate_callee (f:=9) rfl ?_);refine goesL_ (some 35) rfl rfl Try.func9 (by kernel_rfl) rfl #[.slice A0 l0.length c0, .slice A1 l1.length c1, .slice (some ⟨go17,0,none⟩) y467.length co17] rfl (by (try simp only [List.map_toArray,List.map_cons,List.map_nil]);(rw [show y467.length = t464.length from (Kd.R_reads' HO466.out).1.symm] <;> rfl)) ?_;(with_reducible refine (impl_IsValidLoading.calls kj6 _ _ l0 _ _ l1 _ _ y467 false _ ?side1 ?side2 ?side3 ?side4 ?side5 ?side6 A18.out).mono ?_);(case side1 => repeat (exact (Kd.C_below HR0.out HB.out)));(case side2 => exact HC0.out);(case side3 => repeat (exact (Kd.C_below HR1.out HB.out)));(case side4 => exact HC1.out);(case side5 => repeat (exact (Kd.R_reads' HO466.out).2.2));(case side6 => rw [show y467.length = t464.length from (Kd.R_reads' HO466.out).1.symm];exact (Kd.R_reads' HO466.out).2.1);rintro e w27 ⟨rfl,hb⟩;refine ⟨_,rfl, ?_⟩;have n0_:=Aside0.mk (Kd.R_below (by exact HO466.out) hb);have n1_:=Aside0.mk (below_step (by exact HB.out) hb);clear HO466;clear HB;have HO466:=n0_;have HB:=n1_;clear n0_ n1_;(try clear hb)))
       go_ret2
       exact ⟨_,by rfl,by exact Kd.R_nil _ _ _ _ _,by exact HB.out⟩
     ·rw [if_neg c16] at H
      exact absurd H (by simp)
    ·rw [if_neg c15] at H
     exact absurd H (by simp)

/-! ### spec_l1In: function 44 -/
def spec_l1In.f (a0 : Int) (a1 : Int) (a2 : Int) : Option (Bool):=if a0 ≥ a1 then (some (decide (a0 ≤ a2))) else (some false)
set_option maxHeartbeats 8000000 in
set_option maxRecDepth 100000 in
theorem spec_l1In.calls (a0 : Int) (a1 : Int) (a2 : Int) (r : Bool) (w : World) (h : spec_l1In.f a0 a1 a2 = some r) :
  Calls Try.prog 44 #[.int .i64 a0, .int .i64 a1, .int .i64 a2] w fun e w' => e = .returned (.bool r) ∧ Drawn0 w w':=by
 have H : (if a0 ≥ a1 then (some (decide (a0 ≤ a2))) else (some false)) = some r:=h
 clear h
 by_cases c4 : a0 ≥ a1
 ·rw [if_pos c4] at H
  have c4b0 : decide (a1 ≤ a0) = true:=decide_eq_true c4
  clear c4
  obtain rfl:=Option.some.inj H
  go_enter Try.func44,Try.ntmps44
  go_wp2
  go_ret
  exact ⟨by rfl,by repeat (exact Drawn0.refl _)⟩
 ·rw [if_neg c4] at H
  have c4b0 : decide (a1 ≤ a0) = false:=decide_eq_false c4
  clear c4
  obtain rfl:=Option.some.inj H
  go_enter Try.func44,Try.ntmps44
  go_wp2
  go_ret
  exact ⟨by rfl,by repeat (exact Drawn0.refl _)⟩

/-! ### spec_l19Train: function 42 -/
def spec_l19Train.l0 : Nat → List (S60) → Int → Option (Bool)
 | 0,_,_ => none
 | k + 1,x0,x3 => if x3 < (x0.length : Int) then (if 0 ≤ x3 then ((spec_l1In.f ((rd_T60 x0 x3).f0) 1 3).bind fun t471 => (if t471 = true then ((spec_l1In.f ((rd_T60 x0 x3).f1) 1 100000).bind fun t473 => (if t473 = true then (spec_l19Train.l0 k x0 (wrap64 (x3 + 1))) else (some false))) else (some false))) else (none)) else ((spec_l1In.f (x0.length : Int) 1 8).bind fun t469 => (some t469))
def spec_l19Train.f (k : Nat) (l0 : List (S60)) : Option (Bool):=spec_l19Train.l0 k l0 0
theorem spec_l19Train.mono_l : ∀ k,(∀ y0 y1,LeO (spec_l19Train.l0 k y0 y1) (spec_l19Train.l0 (k + 1) y0 y1))
 | 0 => fun _ _ r h => by simp [spec_l19Train.l0] at h
 | k + 1 => by
  have ih0:=spec_l19Train.mono_l k
  ·intro y0 y1
   unfold spec_l19Train.l0
   repeat' first
   | (with_reducible exact ih0 _ _)
   | (with_reducible exact LeO.refl _)
   | (with_reducible exact LeO.none _)
   | (with_reducible refine LeO.ite ?_ ?_)
   | (with_reducible refine LeO.bind ?_ (fun _ => ?_))
   | exact ih0 _ _
   | exact LeO.none _
   | refine LeO.ite ?_ ?_
   | refine LeO.bind ?_ (fun _ => ?_)
theorem spec_l19Train.mono : ∀ a0 k,LeO (spec_l19Train.f k a0) (spec_l19Train.f (k + 1) a0):=by
 intro a0 k
 have ih0:=spec_l19Train.mono_l k
 unfold spec_l19Train.f
 repeat' first
   | (with_reducible exact ih0 _ _)
   | (with_reducible exact LeO.refl _)
   | (with_reducible exact LeO.none _)
   | (with_reducible refine LeO.ite ?_ ?_)
   | (with_reducible refine LeO.bind ?_ (fun _ => ?_))
   | exact ih0 _ _
   | exact LeO.none _
   | refine LeO.ite ?_ ?_
   | refine LeO.bind ?_ (fun _ => ?_)
set_option maxHeartbeats 8000000 in
set_option maxRecDepth 100000 in
theorem spec_l19Train.calls (k : Nat) (A0 : Option Addr) (c0 : Nat) (l0 : List (S60)) (r : Bool) (w : World) (hr0 : Kd.C k60 w A0 l0.length l0) (hc0 : l0.length ≤ c0) (h : spec_l19Train.f k l0 = some r) :
  Calls Try.prog 42 #[.slice A0 l0.length c0] w fun e w' => e = .returned (.bool r) ∧ Drawn0 w w':=by
 have HR0:=Aside0.mk hr0
 have HC0:=Aside0.mk hc0
 clear hr0 hc0
 have H : (spec_l19Train.l0 k l0 0) = some r:=h
 clear h
 have H':=Aside0.mk H
 clear H
 go_enter Try.func42,Try.ntmps42
 go_wp2
 go_loopg [3] k (fun kq v3 w' => ∃ (x3_1 : Int),v3 = .int .i64 x3_1 ∧ Aside0 (spec_l19Train.l0 kq l0 x3_1 = some r) ∧ Aside0 (kq ≤ k) ∧ Drawn0 w w')
 case atStart => exact ⟨(0),(by rfl),H',⟨Nat.le_refl _⟩,by repeat (exact Drawn0.refl _)⟩
 case round =>
  clear H'
  obtain ⟨x3_1,rfl,HA,HK1,⟨m1,rfl⟩⟩ := hrel
  cases gk with
  | zero => exact absurd HA.out (by simp [spec_l19Train.l0])
  | succ k1 =>
   have H:=HA.out
   clear HA
   simp only [spec_l19Train.l0] at H
   by_cases c2 : x3_1 < (l0.length : Int)
   ·rw [if_pos c2] at H
    have c2b0 : decide (x3_1 < (l0.length : Int)) = true:=decide_eq_true c2
    clear c2
    by_cases c3 : 0 ≤ x3_1
    ·rw [if_pos c3] at H
     have c3b0 : decide (0 ≤ x3_1) = true:=decide_eq_true c3
     clear c3
     replace H:=Option.bind_eq_some_iff.mp H
     obtain ⟨t471,A40,H⟩ := H
     replace H : (if t471 = true then ((spec_l1In.f ((rd_T60 l0 x3_1).f1) 1 100000).bind fun t473 => (if t473 = true then (spec_l19Train.l0 k1 l0 (wrap64 (x3_1 + 1))) else (some false))) else (some false)) = some r:=H
     have A4:=Aside0.mk A40
     clear A40
     by_cases c5 : t471 = true
     ·subst c5
      have H1 : ((spec_l1In.f ((rd_T60 l0 x3_1).f1) 1 100000).bind fun t473 => (if t473 = true then (spec_l19Train.l0 k1 l0 (wrap64 (x3_1 + 1))) else (some false))) = some r:=by rw [if_pos rfl] at H;exact H
      clear H
      have H:=H1
      clear H1
      replace H:=Option.bind_eq_some_iff.mp H
      obtain ⟨t473,A60,H⟩ := H
      replace H : (if t473 = true then (spec_l19Train.l0 k1 l0 (wrap64 (x3_1 + 1))) else (some false)) = some r:=H
      have A6:=Aside0.mk A60
      clear A60
      by_cases c7 : t473 = true
      ·subst c7
       have H1 : (spec_l19Train.l0 k1 l0 (wrap64 (x3_1 + 1))) = some r:=by rw [if_pos rfl] at H;exact H
       clear H
       have H:=H1
       clear H1
       have H':=Aside0.mk H
       clear H
       have p470 : 0 ≤ (x3_1 : Int):=of_decide_eq_true (by (with_reducible assumption))
       have q470 : x3_1 < (l0.length : Int):=of_decide_eq_true (by (with_reducible assumption))
       obtain ⟨ad470,e470,hx470_0,hx470_1⟩ := at_T60 HR0.out x3_1 p470 q470
       cases e470
       replace p470:=eq_true p470
       replace q470:=eq_true q470
       go_wp2_with (first | ((with_reducible refine gate_callee (f:=44) rfl ?_);refine goesL_ (some 15) rfl rfl Try.func44 (by kernel_rfl) rfl #[.int .i64 ((rd_T60 l0 x3_1).f0), .int .i64 1, .int .i64 3] rfl (by (try simp only [List.map_toArray,List.map_cons,List.map_nil]);rfl) ?_;(with_reducible refine (spec_l1In.calls ((rd_T60 l0 x3_1).f0) 1 3 true _ A4.out).mono ?_);rintro e w' ⟨rfl,⟨nd,rfl⟩⟩;refine ⟨_,rfl, ?_⟩;have p472 : 0 ≤ (x3_1 : Int):=of_decide_eq_true (by (with_reducible assumption));have q472 : x3_1 < (l0.length : Int):=of_decide_eq_true (by (with_reducible assumption));obtain ⟨ad472,e472,hx472_0,hx472_1⟩ := at_T60 HR0.out x3_1 p472 q472;obtain rfl : ad470 = ad472:=(by injection e472);replace p472:=eq_true p472;replace q472:=eq_true q472) | (go_at_call 44;(with_reducible refine (spec_l1In.calls ((rd_T60 l0 x3_1).f1) 1 100000 true _ A6.out).mono ?_);rintro e w' ⟨rfl,⟨nd,rfl⟩⟩))
       go_roundg k1
       case measure => have:=HK1.out;omega
       case rel => exact ⟨(wrap64 (x3_1 + 1)),(by rfl),H',⟨by have:=HK1.out;omega⟩,by repeat (first | exact Drawn0.refl _ | apply Drawn0.step)⟩
      ·replace c7:=Bool.eq_false_iff.mpr c7
       subst c7
       have H1 : (some false) = some r:=by rw [if_neg (show ¬ (false = true) by decide)] at H;exact H
       clear H
       have H:=H1
       clear H1
       obtain rfl:=Option.some.inj H
       have p470 : 0 ≤ (x3_1 : Int):=of_decide_eq_true (by (with_reducible assumption))
       have q470 : x3_1 < (l0.length : Int):=of_decide_eq_true (by (with_reducible assumption))
       obtain ⟨ad470,e470,hx470_0,hx470_1⟩ := at_T60 HR0.out x3_1 p470 q470
       cases e470
       replace p470:=eq_true p470
       replace q470:=eq_true q470
       go_wp2_with (first | ((with_reducible refine gate_callee (f:=44) rfl ?_);refine goesL_ (some 15) rfl rfl Try.func44 (by kernel_rfl) rfl #[.int .i64 ((rd_T60 l0 x3_1).f0), .int .i64 1, .int .i64 3] rfl (by (try simp only [List.map_toArray,List.map_cons,List.map_nil]);rfl) ?_;(with_reducible refine (spec_l1In.calls ((rd_T60 l0 x3_1).f0) 1 3 true _ A4.out).mono ?_);rintro e w' ⟨rfl,⟨nd,rfl⟩⟩;refine ⟨_,rfl, ?_⟩;have p472 : 0 ≤ (x3_1 : Int):=of_decide_eq_true (by (with_reducible assumption));have q472 : x3_1 < (l0.length : Int):=of_decide_eq_true (by (with_reducible assumption));obtain ⟨ad472,e472,hx472_0,hx472_1⟩ := at_T60 HR0.out x3_1 p472 q472;obtain rfl : ad470 = ad472:=(by injection e472);replace p472:=eq_true p472;replace q472:=eq_true q472) | (go_at_call 44;(with_reducible refine (spec_l1In.calls ((rd_T60 l0 x3_1).f1) 1 100000 false _ A6.out).mono ?_);rintro e w' ⟨rfl,⟨nd,rfl⟩⟩))
       go_ret
       exact ⟨by rfl,by repeat (first | exact Drawn0.refl _ | apply Drawn0.step)⟩
     ·replace c5:=Bool.eq_false_iff.mpr c5
      subst c5
      have H1 : (some false) = some r:=by rw [if_neg (show ¬ (false = true) by decide)] at H;exact H
      clear H
      have H:=H1
      clear H1
      obtain rfl:=Option.some.inj H
      have p470 : 0 ≤ (x3_1 : Int):=of_decide_eq_true (by (with_reducible assumption))
      have q470 : x3_1 < (l0.length : Int):=of_decide_eq_true (by (with_reducible assumption))
      obtain ⟨ad470,e470,hx470_0,hx470_1⟩ := at_T60 HR0.out x3_1 p470 q470
      cases e470
      replace p470:=eq_true p470
      replace q470:=eq_true q470
      go_wp2_with (((with_reducible refine gate_callee (f:=44) rfl ?_);refine goesL_ (some 15) rfl rfl Try.func44 (by kernel_rfl) rfl #[.int .i64 ((rd_T60 l0 x3_1).f0), .int .i64 1, .int .i64 3] rfl (by (try simp only [List.map_toArray,List.map_cons,List.map_nil]);rfl) ?_;(with_reducible refine (spec_l1In.calls ((rd_T60 l0 x3_1).f0) 1 3 false _ A4.out).mono ?_);rintro e w' ⟨rfl,⟨nd,rfl⟩⟩;refine ⟨_,rfl, ?_⟩))
      go_ret
      exact ⟨by rfl,by repeat (first | exact Drawn0.refl _ | apply Drawn0.step)⟩
    ·rw [if_neg c3] at H
     exact absurd H (by simp)
   ·rw [if_neg c2] at H
    have c2b0 : decide (x3_1 < (l0.length : Int)) = false:=decide_eq_false c2
    clear c2
    replace H:=Option.bind_eq_some_iff.mp H
    obtain ⟨t469,A80,H⟩ := H
    replace H : (some t469) = some r:=H
    have A8:=Aside0.mk A80
    clear A80
    obtain rfl:=Option.some.inj H
    go_wp2_with (((with_reducible refine gate_callee (f:=44) rfl ?_);refine goesL_ (some 28) rfl rfl Try.func44 (by kernel_rfl) rfl #[.int .i64 (l0.length : Int), .int .i64 1, .int .i64 8] rfl (by (try simp only [List.map_toArray,List.map_cons,List.map_nil]);rfl) ?_;(with_reducible refine (spec_l1In.calls (l0.length : Int) 1 8 t469 _ A8.out).mono ?_);rintro e w' ⟨rfl,⟨nd,rfl⟩⟩;refine ⟨_,rfl, ?_⟩))
    go_ret
    exact ⟨by rfl,by repeat (first | exact Drawn0.refl _ | apply Drawn0.step)⟩

end Go.Proofs.Ytempmebpbbbkmaa.PFnWagons
