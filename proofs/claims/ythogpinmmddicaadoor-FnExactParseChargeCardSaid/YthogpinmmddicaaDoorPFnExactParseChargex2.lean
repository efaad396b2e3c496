-- Written by a program of this session, over the kit's print (wip/xprint.py)
import Derived.Test.YthogpinmmddicaaDoorPFnExactParseChargex0
import Derived.Test.YthogpinmmddicaaDoorPFnExactParseChargex1
namespace Go.Proofs.YthogpinmmddicaaDoor.PFnExactParseCharge
open Go.RowKit Go.Proofs.YthogpinmmddicaaDoorW.PrintWords Go.Proofs.YthogpinmmddicaaDoorW.PrintLast Go.Proofs.YthogpinmmddicaaDoorW.PrintMore
attribute [local go_sem] max2_int min2_int max_two min_two max_three min_three max_four min_four   -- for this text's walks alone
set_option linter.unusedVariables false
set_option linter.unusedSimpArgs false

/-! ### spec_l22Good: function 24 -/
mutual
def spec_l22Good.j0 : Nat → Bool → Int → List (S35) → Int → Option (Bool)
 | 0,_,_,_,_ => none
 | k + 1,x20,x116000,x116001,x116002 => if x20 = true then (some false) else (spec_l22Good.l0 k 0 x116000 x116001 x116002)
def spec_l22Good.l0 : Nat → Int → Int → List (S35) → Int → Option (Bool)
 | 0,_,_,_,_ => none
 | k + 1,x3,x116000,x116001,x116002 => if x3 < (x116001.length : Int) then (if 0 ≤ x3 then ((spec_l1In.f ((rd_T35 x116001 x3).f0) 1 100).bind fun t120 => (if t120 = true then ((spec_l1In.f ((rd_T35 x116001 x3).f1) 0 10000).bind fun t122 => (if t122 = true then (spec_l22Good.l0 k (wrap64 (x3 + 1)) x116000 x116001 x116002) else (some false))) else (some false))) else (none)) else (some true)
end
def spec_l22Good.f (k : Nat) (a0_0 : Int) (l0_1 : List (S35)) (a0_2 : Int) : Option (Bool):=(spec_l1In.f a0_0 0 30).bind fun t116 => (if t116 = true then ((spec_l1In.f (l0_1.length : Int) 1 6).bind fun t117 => (if t117 = true then ((spec_l1In.f a0_2 100 300).bind fun t118 => (spec_l22Good.j0 k (!t118) a0_0 l0_1 a0_2)) else (spec_l22Good.j0 k true a0_0 l0_1 a0_2))) else (spec_l22Good.j0 k true a0_0 l0_1 a0_2))
theorem spec_l22Good.mono_l : ∀ k,(∀ y0 y1 y2 y3,LeO (spec_l22Good.j0 k y0 y1 y2 y3) (spec_l22Good.j0 (k + 1) y0 y1 y2 y3)) ∧ (∀ y0 y1 y2 y3,LeO (spec_l22Good.l0 k y0 y1 y2 y3) (spec_l22Good.l0 (k + 1) y0 y1 y2 y3))
 | 0 => ⟨fun _ _ _ _ r h => by simp [spec_l22Good.j0] at h,fun _ _ _ _ r h => by simp [spec_l22Good.l0] at h⟩
 | k + 1 => by
  obtain ⟨ih0,ih1⟩ := spec_l22Good.mono_l k
  refine ⟨?_, ?_⟩
  ·intro y0 y1 y2 y3
   unfold spec_l22Good.j0
   repeat' first
   | (with_reducible exact ih0 _ _ _ _)
   | (with_reducible exact ih1 _ _ _ _)
   | (with_reducible exact LeO.refl _)
   | (with_reducible exact LeO.none _)
   | (with_reducible refine LeO.ite ?_ ?_)
   | (with_reducible refine LeO.bind ?_ (fun _ => ?_))
   | exact ih0 _ _ _ _
   | exact ih1 _ _ _ _
   | exact LeO.none _
   | refine LeO.ite ?_ ?_
   | refine LeO.bind ?_ (fun _ => ?_)
  ·intro y0 y1 y2 y3
   unfold spec_l22Good.l0
   repeat' first
   | (with_reducible exact ih0 _ _ _ _)
   | (with_reducible exact ih1 _ _ _ _)
   | (with_reducible exact LeO.refl _)
   | (with_reducible exact LeO.none _)
   | (with_reducible refine LeO.ite ?_ ?_)
   | (with_reducible refine LeO.bind ?_ (fun _ => ?_))
   | exact ih0 _ _ _ _
   | exact ih1 _ _ _ _
   | exact LeO.none _
   | refine LeO.ite ?_ ?_
   | refine LeO.bind ?_ (fun _ => ?_)
theorem spec_l22Good.mono : ∀ a0 a1 a2 k,LeO (spec_l22Good.f k a0 a1 a2) (spec_l22Good.f (k + 1) a0 a1 a2):=by
 intro a0 a1 a2 k
 obtain ⟨ih0,ih1⟩ := spec_l22Good.mono_l k
 unfold spec_l22Good.f
 repeat' first
   | (with_reducible exact ih0 _ _ _ _)
   | (with_reducible exact ih1 _ _ _ _)
   | (with_reducible exact LeO.refl _)
   | (with_reducible exact LeO.none _)
   | (with_reducible refine LeO.ite ?_ ?_)
   | (with_reducible refine LeO.bind ?_ (fun _ => ?_))
   | exact ih0 _ _ _ _
   | exact ih1 _ _ _ _
   | exact LeO.none _
   | refine LeO.ite ?_ ?_
   | refine LeO.bind ?_ (fun _ => ?_)
set_option maxHeartbeats 8000000 in
set_option maxRecDepth 100000 in
theorem spec_l22Good.calls (k : Nat) (a0_0 : Int) (A0_1 : Option Addr) (c0_1 : Nat) (l0_1 : List (S35)) (a0_2 : Int) (r : Bool) (w : World) (hr0_1 : Kd.C k35 w A0_1 l0_1.length l0_1) (hc0_1 : l0_1.length ≤ c0_1) (h : spec_l22Good.f k a0_0 l0_1 a0_2 = some r) :
  Calls Tryd.prog 24 #[.agg #[.int .i64 a0_0, .slice A0_1 l0_1.length c0_1, .int .i64 a0_2]] w fun e w' => e = .returned (.bool r) ∧ Below w.heap.size w w':=by
 have hu24:=Tryd.underlying24
 have HR0_1:=Aside0.mk hr0_1
 have HC0_1:=Aside0.mk hc0_1
 clear hr0_1 hc0_1
 have HB:=Aside0.mk (Below.refl w.heap.size w)
 have H : ((spec_l1In.f a0_0 0 30).bind fun t116 => (if t116 = true then ((spec_l1In.f (l0_1.length : Int) 1 6).bind fun t117 => (if t117 = true then ((spec_l1In.f a0_2 100 300).bind fun t118 => (spec_l22Good.j0 k (!t118) a0_0 l0_1 a0_2)) else (spec_l22Good.j0 k true a0_0 l0_1 a0_2))) else (spec_l22Good.j0 k true a0_0 l0_1 a0_2))) = some r:=h
 clear h
 have HC2:=Aside0.mk H
 clear H
 go_enter Tryd.func24,Tryd.ntmps24
 go_upto_region 1 with (((with_reducible refine gate_dst (N:=1) rfl ?_);(try (refine gate_guard (by rfl) ?_;dsimp only));refine box_event ?hg (N:=1) ?hd (cs:=#[.int .i64 a0_0, .slice A0_1 l0_1.length c0_1, .int .i64 a0_2]) (t:=24) ?hr ?_;(case hd => rfl);(case hg => rfl);(case hr => (go_simp;done));intro gb115 hg w3 hbox hb;have n0_:=Aside0.mk (below_step (by exact HB.out) hb);have n1_:=Aside0.mk (hbox);have n2_:=Aside0.mk ((by rw [hg];exact (below_size (by exact HB.out)) : w.heap.size ≤ gb115));have n3_:=Aside0.mk ((by rw [hg];exact (below_size (by exact HB.out)) : w.heap.size ≤ gb115));clear HB;have HB:=n0_;have BK115:=n1_;have GW115:=n2_;have GE115:=n3_;clear n0_ n1_ n2_ n3_;clear hb hbox hg))
 (skip)
 go_cut [20] (fun v20 wc => ∃ (kq : Nat) (x20_1 : Bool),v20 = .bool x20_1 ∧ Aside0 (spec_l22Good.j0 kq x20_1 a0_0 l0_1 a0_2 = some r) ∧ Aside0 (kq ≤ k) ∧ Aside0 (wc.heap[gb115]? = some (.cells #[.int .i64 a0_0,(.slice A0_1 l0_1.length c0_1), .int .i64 a0_2] 24 (0,0))) ∧ Aside0 (Below w.heap.size w wc))
 case first =>
  have H:=HC2.out
  clear HC2
  replace H:=Option.bind_eq_some_iff.mp H
  obtain ⟨t116,A40,H⟩ := H
  replace H : (if t116 = true then ((spec_l1In.f (l0_1.length : Int) 1 6).bind fun t117 => (if t117 = true then ((spec_l1In.f a0_2 100 300).bind fun t118 => (spec_l22Good.j0 k (!t118) a0_0 l0_1 a0_2)) else (spec_l22Good.j0 k true a0_0 l0_1 a0_2))) else (spec_l22Good.j0 k true a0_0 l0_1 a0_2)) = some r:=H
  have A4:=Aside0.mk A40
  clear A40
  by_cases c5 : t116 = true
  ·subst c5
   have H1 : ((spec_l1In.f (l0_1.length : Int) 1 6).bind fun t117 => (if t117 = true then ((spec_l1In.f a0_2 100 300).bind fun t118 => (spec_l22Good.j0 k (!t118) a0_0 l0_1 a0_2)) else (spec_l22Good.j0 k true a0_0 l0_1 a0_2))) = some r:=by rw [if_pos rfl] at H;exact H
   clear H
   have H:=H1
   clear H1
   replace H:=Option.bind_eq_some_iff.mp H
   obtain ⟨t117,A60,H⟩ := H
   replace H : (if t117 = true then ((spec_l1In.f a0_2 100 300).bind fun t118 => (spec_l22Good.j0 k (!t118) a0_0 l0_1 a0_2)) else (spec_l22Good.j0 k true a0_0 l0_1 a0_2)) = some r:=H
   have A6:=Aside0.mk A60
   clear A60
   by_cases c7 : t117 = true
   ·subst c7
    have H1 : ((spec_l1In.f a0_2 100 300).bind fun t118 => (spec_l22Good.j0 k (!t118) a0_0 l0_1 a0_2)) = some r:=by rw [if_pos rfl] at H;exact H
    clear H
    have H:=H1
    clear H1
    replace H:=Option.bind_eq_some_iff.mp H
    obtain ⟨t118,A80,H⟩ := H
    replace H : (spec_l22Good.j0 k (!t118) a0_0 l0_1 a0_2) = some r:=H
    have A8:=Aside0.mk A80
    clear A80
    have H':=Aside0.mk H
    clear H
    have hcz9_0 : w3.cell? ⟨gb115,0,none⟩ = some (.int .i64 a0_0):=(blk_cell BK115.out 0).trans rfl
    have hcz9_1 : w3.cell? ⟨gb115,1,none⟩ = some (.slice A0_1 l0_1.length c0_1):=(blk_cell BK115.out 1).trans rfl
    have hcz9_2 : w3.cell? ⟨gb115,2,none⟩ = some (.int .i64 a0_2):=(blk_cell BK115.out 2).trans rfl
    have hfz9_0:=blk_frozen BK115.out 0
    have hfz9_1:=blk_frozen BK115.out 1
    have hfz9_2:=blk_frozen BK115.out 2
    go_wp2_with (first | ((with_reducible refine gate_callee (f:=22) rfl ?_);refine goesL_ (some 6) rfl rfl Tryd.func22 (by kernel_rfl) rfl #[.int .i64 a0_0, .int .i64 0, .int .i64 30] rfl (by (try simp only [List.map_toArray,List.map_cons,List.map_nil]);rfl) ?_;(with_reducible refine (spec_l1In.calls a0_0 0 30 true _ A4.out).mono ?_);rintro e w' ⟨rfl,⟨nd,rfl⟩⟩;refine ⟨_,rfl, ?_⟩) | (go_at_call 22;(with_reducible refine (spec_l1In.calls (l0_1.length : Int) 1 6 true _ A6.out).mono ?_);rintro e w' ⟨rfl,⟨nd,rfl⟩⟩) | (go_at_call 22;(with_reducible refine (spec_l1In.calls a0_2 100 300 t118 _ A8.out).mono ?_);rintro e w' ⟨rfl,⟨nd,rfl⟩⟩))
    go_meet
    case rel => exact ⟨_,(!t118),(by rfl),H',⟨by omega⟩,⟨by (with_reducible repeat (refine blk_drewN ?_ _));exact BK115.out⟩,⟨by repeat ((with_reducible first | exact HB.out | apply pw_below_drewN))⟩⟩
   ·replace c7:=Bool.eq_false_iff.mpr c7
    subst c7
    have H1 : (spec_l22Good.j0 k true a0_0 l0_1 a0_2) = some r:=by rw [if_neg (show ¬ (false = true) by decide)] at H;exact H
    clear H
    have H:=H1
    clear H1
    have H':=Aside0.mk H
    clear H
    have hcz10_0 : w3.cell? ⟨gb115,0,none⟩ = some (.int .i64 a0_0):=(blk_cell BK115.out 0).trans rfl
    have hcz10_1 : w3.cell? ⟨gb115,1,none⟩ = some (.slice A0_1 l0_1.length c0_1):=(blk_cell BK115.out 1).trans rfl
    have hcz10_2 : w3.cell? ⟨gb115,2,none⟩ = some (.int .i64 a0_2):=(blk_cell BK115.out 2).trans rfl
    have hfz10_0:=blk_frozen BK115.out 0
    have hfz10_1:=blk_frozen BK115.out 1
    have hfz10_2:=blk_frozen BK115.out 2
    go_wp2_with (first | ((with_reducible refine gate_callee (f:=22) rfl ?_);refine goesL_ (some 6) rfl rfl Tryd.func22 (by kernel_rfl) rfl #[.int .i64 a0_0, .int .i64 0, .int .i64 30] rfl (by (try simp only [List.map_toArray,List.map_cons,List.map_nil]);rfl) ?_;(with_reducible refine (spec_l1In.calls a0_0 0 30 true _ A4.out).mono ?_);rintro e w' ⟨rfl,⟨nd,rfl⟩⟩;refine ⟨_,rfl, ?_⟩) | (go_at_call 22;(with_reducible refine (spec_l1In.calls (l0_1.length : Int) 1 6 false _ A6.out).mono ?_);rintro e w' ⟨rfl,⟨nd,rfl⟩⟩))
    go_meet
    case rel => exact ⟨_,(true),(by rfl),H',⟨by omega⟩,⟨by (with_reducible repeat (refine blk_drewN ?_ _));exact BK115.out⟩,⟨by repeat ((with_reducible first | exact HB.out | apply pw_below_drewN))⟩⟩
  ·replace c5:=Bool.eq_false_iff.mpr c5
   subst c5
   have H1 : (spec_l22Good.j0 k true a0_0 l0_1 a0_2) = some r:=by rw [if_neg (show ¬ (false = true) by decide)] at H;exact H
   clear H
   have H:=H1
   clear H1
   have H':=Aside0.mk H
   clear H
   have hcz11_0 : w3.cell? ⟨gb115,0,none⟩ = some (.int .i64 a0_0):=(blk_cell BK115.out 0).trans rfl
   have hcz11_1 : w3.cell? ⟨gb115,1,none⟩ = some (.slice A0_1 l0_1.length c0_1):=(blk_cell BK115.out 1).trans rfl
   have hcz11_2 : w3.cell? ⟨gb115,2,none⟩ = some (.int .i64 a0_2):=(blk_cell BK115.out 2).trans rfl
   have hfz11_0:=blk_frozen BK115.out 0
   have hfz11_1:=blk_frozen BK115.out 1
   have hfz11_2:=blk_frozen BK115.out 2
   go_wp2_with (((with_reducible refine gate_callee (f:=22) rfl ?_);refine goesL_ (some 6) rfl rfl Tryd.func22 (by kernel_rfl) rfl #[.int .i64 a0_0, .int .i64 0, .int .i64 30] rfl (by (try simp only [List.map_toArray,List.map_cons,List.map_nil]);rfl) ?_;(with_reducible refine (spec_l1In.calls a0_0 0 30 false _ A4.out).mono ?_);rintro e w' ⟨rfl,⟨nd,rfl⟩⟩;refine ⟨_,rfl, ?_⟩))
   go_meet
   case rel => exact ⟨_,(true),(by rfl),H',⟨by omega⟩,⟨by (with_reducible repeat (refine blk_drewN ?_ _));exact BK115.out⟩,⟨by repeat ((with_reducible first | exact HB.out | apply pw_below_drewN))⟩⟩
 case rest =>
  clear HC2
  try clear c2
  try clear p2
  try clear c5
  try clear c7
  try clear hcz10_0
  try clear hcz10_1
  try clear hcz10_2
  try clear hcz11_0
  try clear hcz11_1
  try clear hcz11_2
  try clear hcz9_0
  try clear hcz9_1
  try clear hcz9_2
  try clear hfz10_0
  try clear hfz10_1
  try clear hfz10_2
  try clear hfz11_0
  try clear hfz11_1
  try clear hfz11_2
  try clear hfz9_0
  try clear hfz9_1
  try clear hfz9_2
  obtain ⟨kq,x20_1,rfl,HA,HJ1,BK115,HB⟩ := hcut
  cases kq with
  | zero => exact absurd HA.out (by simp [spec_l22Good.j0])
  | succ kj1 =>
   have H:=HA.out
   clear HA
   simp only [spec_l22Good.j0] at H
   by_cases c12 : x20_1 = true
   ·subst c12
    have H1 : (some false) = some r:=by rw [if_pos rfl] at H;exact H
    clear H
    have H:=H1
    clear H1
    obtain rfl:=Option.some.inj H
    go_wp2
    go_ret
    exact ⟨by rfl,by exact HB.out⟩
   ·replace c12:=Bool.eq_false_iff.mpr c12
    subst c12
    have H1 : (spec_l22Good.l0 kj1 0 a0_0 l0_1 a0_2) = some r:=by rw [if_neg (show ¬ (false = true) by decide)] at H;exact H
    clear H
    have H:=H1
    clear H1
    have H':=Aside0.mk H
    clear H
    go_wp2
    (skip)
    go_loopg [3] kj1 (fun kq v3 w' => ∃ (x3_2 : Int),v3 = .int .i64 x3_2 ∧ Aside0 (spec_l22Good.l0 kq x3_2 a0_0 l0_1 a0_2 = some r) ∧ Aside0 (kq ≤ kj1) ∧ Aside0 (w'.heap[gb115]? = some (.cells #[.int .i64 a0_0,(.slice A0_1 l0_1.length c0_1), .int .i64 a0_2] 24 (0,0))) ∧ Aside0 (Below w.heap.size w w'))
    case atStart => exact ⟨(0),(by rfl),H',⟨Nat.le_refl _⟩,⟨by exact BK115.out⟩,⟨by exact HB.out⟩⟩
    case round =>
     clear H'
     try clear c1
     try clear c2
     try clear p2
     try clear c5
     try clear c7
     try clear c12
     try clear hcz10_0
     try clear hcz10_1
     try clear hcz10_2
     try clear hcz11_0
     try clear hcz11_1
     try clear hcz11_2
     try clear hcz9_0
     try clear hcz9_1
     try clear hcz9_2
     try clear hfz10_0
     try clear hfz10_1
     try clear hfz10_2
     try clear hfz11_0
     try clear hfz11_1
     try clear hfz11_2
     try clear hfz9_0
     try clear hfz9_1
     try clear hfz9_2
     try clear p2
     obtain ⟨x3_2,rfl,HA,HK2,BK115,HB⟩ := hrel
     cases gk with
     | zero => exact absurd HA.out (by simp [spec_l22Good.l0])
     | succ k2 =>
      have H:=HA.out
      clear HA
      simp only [spec_l22Good.l0] at H
      by_cases c13 : x3_2 < (l0_1.length : Int)
      ·rw [if_pos c13] at H
       have c13b0 : decide (x3_2 < (l0_1.length : Int)) = true:=decide_eq_true c13
       clear c13
       by_cases c14 : 0 ≤ x3_2
       ·rw [if_pos c14] at H
        have c14b0 : decide (0 ≤ x3_2) = true:=decide_eq_true c14
        clear c14
        replace H:=Option.bind_eq_some_iff.mp H
        obtain ⟨t120,A150,H⟩ := H
        replace H : (if t120 = true then ((spec_l1In.f ((rd_T35 l0_1 x3_2).f1) 0 10000).bind fun t122 => (if t122 = true then (spec_l22Good.l0 k2 (wrap64 (x3_2 + 1)) a0_0 l0_1 a0_2) else (some false))) else (some false)) = some r:=H
        have A15:=Aside0.mk A150
        clear A150
        by_cases c16 : t120 = true
        ·subst c16
         have H1 : ((spec_l1In.f ((rd_T35 l0_1 x3_2).f1) 0 10000).bind fun t122 => (if t122 = true then (spec_l22Good.l0 k2 (wrap64 (x3_2 + 1)) a0_0 l0_1 a0_2) else (some false))) = some r:=by rw [if_pos rfl] at H;exact H
         clear H
         have H:=H1
         clear H1
         replace H:=Option.bind_eq_some_iff.mp H
         obtain ⟨t122,A170,H⟩ := H
         replace H : (if t122 = true then (spec_l22Good.l0 k2 (wrap64 (x3_2 + 1)) a0_0 l0_1 a0_2) else (some false)) = some r:=H
         have A17:=Aside0.mk A170
         clear A170
         by_cases c18 : t122 = true
         ·subst c18
          have H1 : (spec_l22Good.l0 k2 (wrap64 (x3_2 + 1)) a0_0 l0_1 a0_2) = some r:=by rw [if_pos rfl] at H;exact H
          clear H
          have H:=H1
          clear H1
          have H':=Aside0.mk H
          clear H
          have hcz19_0 : wr.cell? ⟨gb115,0,none⟩ = some (.int .i64 a0_0):=(blk_cell BK115.out 0).trans rfl
          have hcz19_1 : wr.cell? ⟨gb115,1,none⟩ = some (.slice A0_1 l0_1.length c0_1):=(blk_cell BK115.out 1).trans rfl
          have hcz19_2 : wr.cell? ⟨gb115,2,none⟩ = some (.int .i64 a0_2):=(blk_cell BK115.out 2).trans rfl
          have hfz19_0:=blk_frozen BK115.out 0
          have hfz19_1:=blk_frozen BK115.out 1
          have hfz19_2:=blk_frozen BK115.out 2
          have p119 : 0 ≤ (x3_2 : Int):=of_decide_eq_true (by (with_reducible assumption))
          have q119 : x3_2 < (l0_1.length : Int):=of_decide_eq_true (by (with_reducible assumption))
          obtain ⟨ad119,e119,hx119_0,hx119_1⟩ := at_T35 HR0_1.out x3_2 p119 q119
          cases e119
          replace hx119_0:=(HB.out.cell (World.block_lt_of_cell? w _ hx119_0)).trans hx119_0
          replace hx119_1:=(HB.out.cell (World.block_lt_of_cell? w _ hx119_1)).trans hx119_1
          replace p119:=eq_true p119
          replace q119:=eq_true q119
          go_wp2_with (first | ((with_reducible refine gate_callee (f:=22) rfl ?_);refine goesL_ (some 34) rfl rfl Tryd.func22 (by kernel_rfl) rfl #[.int .i64 ((rd_T35 l0_1 x3_2).f0), .int .i64 1, .int .i64 100] rfl (by (try simp only [List.map_toArray,List.map_cons,List.map_nil]);rfl) ?_;(with_reducible refine (spec_l1In.calls ((rd_T35 l0_1 x3_2).f0) 1 100 true _ A15.out).mono ?_);rintro e w' ⟨rfl,⟨nd,rfl⟩⟩;refine ⟨_,rfl, ?_⟩;have p121 : 0 ≤ (x3_2 : Int):=of_decide_eq_true (by (with_reducible assumption));have q121 : x3_2 < (l0_1.length : Int):=of_decide_eq_true (by (with_reducible assumption));obtain ⟨ad121,e121,hx121_0,hx121_1⟩ := at_T35 HR0_1.out x3_2 p121 q121;obtain rfl : ad119 = ad121:=(by injection e121);replace hx121_0:=(HB.out.cell (World.block_lt_of_cell? w _ hx121_0)).trans hx121_0;replace hx121_1:=(HB.out.cell (World.block_lt_of_cell? w _ hx121_1)).trans hx121_1;replace p121:=eq_true p121;replace q121:=eq_true q121) | (go_at_call 22;(with_reducible refine (spec_l1In.calls ((rd_T35 l0_1 x3_2).f1) 0 10000 true _ A17.out).mono ?_);rintro e w' ⟨rfl,⟨nd,rfl⟩⟩))
          go_roundg k2
          case measure => have:=HJ1.out;have:=HK2.out;omega
          case rel => exact ⟨(wrap64 (x3_2 + 1)),(by rfl),H',⟨by have:=HJ1.out;have:=HK2.out;omega⟩,⟨by (with_reducible repeat (refine blk_drewN ?_ _));exact BK115.out⟩,⟨by repeat ((with_reducible first | exact HB.out | apply pw_below_drewN))⟩⟩
         ·replace c18:=Bool.eq_false_iff.mpr c18
          subst c18
          have H1 : (some false) = some r:=by rw [if_neg (show ¬ (false = true) by decide)] at H;exact H
          clear H
          have H:=H1
          clear H1
          obtain rfl:=Option.some.inj H
          have hcz20_0 : wr.cell? ⟨gb115,0,none⟩ = some (.int .i64 a0_0):=(blk_cell BK115.out 0).trans rfl
          have hcz20_1 : wr.cell? ⟨gb115,1,none⟩ = some (.slice A0_1 l0_1.length c0_1):=(blk_cell BK115.out 1).trans rfl
          have hcz20_2 : wr.cell? ⟨gb115,2,none⟩ = some (.int .i64 a0_2):=(blk_cell BK115.out 2).trans rfl
          have hfz20_0:=blk_frozen BK115.out 0
          have hfz20_1:=blk_frozen BK115.out 1
          have hfz20_2:=blk_frozen BK115.out 2
          have p119 : 0 ≤ (x3_2 : Int):=of_decide_eq_true (by (with_reducible assumption))
          have q119 : x3_2 < (l0_1.length : Int):=of_decide_eq_true (by (with_reducible assumption))
          obtain ⟨ad119,e119,hx119_0,hx119_1⟩ := at_T35 HR0_1.out x3_2 p119 q119
          cases e119
          replace hx119_0:=(HB.out.cell (World.block_lt_of_cell? w _ hx119_0)).trans hx119_0
          replace hx119_1:=(HB.out.cell (World.block_lt_of_cell? w _ hx119_1)).trans hx119_1
          replace p119:=eq_true p119
          replace q119:=eq_true q119
          go_wp2_with (first | ((with_reducible refine gate_callee (f:=22) rfl ?_);refine goesL_ (some 34) rfl rfl Tryd.func22 (by kernel_rfl) rfl #[.int .i64 ((rd_T35 l0_1 x3_2).f0), .int .i64 1, .int .i64 100] rfl (by (try simp only [List.map_toArray,List.map_cons,List.map_nil]);rfl) ?_;(with_reducible refine (spec_l1In.calls ((rd_T35 l0_1 x3_2).f0) 1 100 true _ A15.out).mono ?_);rintro e w' ⟨rfl,⟨nd,rfl⟩⟩;refine ⟨_,rfl, ?_⟩;have p121 : 0 ≤ (x3_2 : Int):=of_decide_eq_true (by (with_reducible assumption));have q121 : x3_2 < (l0_1.length : Int):=of_decide_eq_true (by (with_reducible assumption));obtain ⟨ad121,e121,hx121_0,hx121_1⟩ := at_T35 HR0_1.out x3_2 p121 q121;obtain rfl : ad119 = ad121:=(by injection e121);replace hx121_0:=(HB.out.cell (World.block_lt_of_cell? w _ hx121_0)).trans hx121_0;replace hx121_1:=(HB.out.cell (World.block_lt_of_cell? w _ hx121_1)).trans hx121_1;replace p121:=eq_true p121;replace q121:=eq_true q121) | (go_at_call 22;(with_reducible refine (spec_l1In.calls ((rd_T35 l0_1 x3_2).f1) 0 10000 false _ A17.out).mono ?_);rintro e w' ⟨rfl,⟨nd,rfl⟩⟩))
          go_ret
          exact ⟨by rfl,by repeat ((with_reducible first | exact HB.out | apply pw_below_drewN))⟩
        ·replace c16:=Bool.eq_false_iff.mpr c16
         subst c16
         have H1 : (some false) = some r:=by rw [if_neg (show ¬ (false = true) by decide)] at H;exact H
         clear H
         have H:=H1
         clear H1
         obtain rfl:=Option.some.inj H
         have hcz21_0 : wr.cell? ⟨gb115,0,none⟩ = some (.int .i64 a0_0):=(blk_cell BK115.out 0).trans rfl
         have hcz21_1 : wr.cell? ⟨gb115,1,none⟩ = some (.slice A0_1 l0_1.length c0_1):=(blk_cell BK115.out 1).trans rfl
         have hcz21_2 : wr.cell? ⟨gb115,2,none⟩ = some (.int .i64 a0_2):=(blk_cell BK115.out 2).trans rfl
         have hfz21_0:=blk_frozen BK115.out 0
         have hfz21_1:=blk_frozen BK115.out 1
         have hfz21_2:=blk_frozen BK115.out 2
         have p119 : 0 ≤ (x3_2 : Int):=of_decide_eq_true (by (with_reducible assumption))
         have q119 : x3_2 < (l0_1.length : Int):=of_decide_eq_true (by (with_reducible assumption))
         obtain ⟨ad119,e119,hx119_0,hx119_1⟩ := at_T35 HR0_1.out x3_2 p119 q119
         cases e119
         replace hx119_0:=(HB.out.cell (World.block_lt_of_cell? w _ hx119_0)).trans hx119_0
         replace hx119_1:=(HB.out.cell (World.block_lt_of_cell? w _ hx119_1)).trans hx119_1
         replace p119:=eq_true p119
         replace q119:=eq_true q119
         go_wp2_with (((with_reducible refine gate_callee (f:=22) rfl ?_);refine goesL_ (some 34) rfl rfl Tryd.func22 (by kernel_rfl) rfl #[.int .i64 ((rd_T35 l0_1 x3_2).f0), .int .i64 1, .int .i64 100] rfl (by (try simp only [List.map_toArray,List.map_cons,List.map_nil]);rfl) ?_;(with_reducible refine (spec_l1In.calls ((rd_T35 l0_1 x3_2).f0) 1 100 false _ A15.out).mono ?_);rintro e w' ⟨rfl,⟨nd,rfl⟩⟩;refine ⟨_,rfl, ?_⟩))
         go_ret
         exact ⟨by rfl,by repeat ((with_reducible first | exact HB.out | apply pw_below_drewN))⟩
       ·rw [if_neg c14] at H
        exact absurd H (by simp)
      ·rw [if_neg c13] at H
       have c13b0 : decide (x3_2 < (l0_1.length : Int)) = false:=decide_eq_false c13
       clear c13
       obtain rfl:=Option.some.inj H
       have hcz22_0 : wr.cell? ⟨gb115,0,none⟩ = some (.int .i64 a0_0):=(blk_cell BK115.out 0).trans rfl
       have hcz22_1 : wr.cell? ⟨gb115,1,none⟩ = some (.slice A0_1 l0_1.length c0_1):=(blk_cell BK115.out 1).trans rfl
       have hcz22_2 : wr.cell? ⟨gb115,2,none⟩ = some (.int .i64 a0_2):=(blk_cell BK115.out 2).trans rfl
       have hfz22_0:=blk_frozen BK115.out 0
       have hfz22_1:=blk_frozen BK115.out 1
       have hfz22_2:=blk_frozen BK115.out 2
       go_wp2
       go_ret
       exact ⟨by rfl,by exact HB.out⟩

/-! ### spec_ChargeText: function 11 -/
def spec_ChargeText.l0 : Nat → ByteArray → Int → Int → List (S35) → Int → Option (ByteArray × Bool)
 | 0,_,_,_,_,_ => none
 | k + 1,x4,x5,x124000,x124001,x124002 => if x5 < (x124001.length : Int) then (if x4.size + 2 ≤ 9223372036854775807 then (if 0 ≤ x5 then ((spec_l1Num.f k ((rd_T35 x124001 x5).f0)).bind fun t127 => (if (x4 ++ (⟨#[44,32]⟩ : ByteArray)).size + t127.size ≤ 9223372036854775807 then (if ((x4 ++ (⟨#[44,32]⟩ : ByteArray)) ++ t127).size + 3 ≤ 9223372036854775807 then ((spec_l1Num.f k ((rd_T35 x124001 x5).f1)).bind fun t129 => (if (((x4 ++ (⟨#[44,32]⟩ : ByteArray)) ++ t127) ++ (⟨#[32,120,32]⟩ : ByteArray)).size + t129.size ≤ 9223372036854775807 then (spec_ChargeText.l0 k ((((x4 ++ (⟨#[44,32]⟩ : ByteArray)) ++ t127) ++ (⟨#[32,120,32]⟩ : ByteArray)) ++ t129) (wrap64 (x5 + 1)) x124000 x124001 x124002) else (none))) else (none)) else (none))) else (none)) else (none)) else (if x4.size + 8 ≤ 9223372036854775807 then ((spec_l1Num.f k x124002).bind fun t130 => (if (x4 ++ (⟨#[44,32,108,97,114,103,101,32]⟩ : ByteArray)).size + t130.size ≤ 9223372036854775807 then (some ((x4 ++ (⟨#[44,32,108,97,114,103,101,32]⟩ : ByteArray)) ++ t130,true)) else (none))) else (none))
def spec_ChargeText.f (k : Nat) (a0_0 : Int) (l0_1 : List (S35)) (a0_2 : Int) : Option (ByteArray × Bool):=(spec_l22Good.f k a0_0 l0_1 a0_2).bind fun t124 => (if t124 = true then ((spec_l1Num.f k a0_0).bind fun t125 => (if t125.size + 5 ≤ 9223372036854775807 then (spec_ChargeText.l0 k (t125 ++ (⟨#[32,102,114,101,101]⟩ : ByteArray)) 0 a0_0 l0_1 a0_2) else (none))) else (some ((⟨#[]⟩ : ByteArray),false)))
theorem spec_ChargeText.mono_l : ∀ k,(∀ y0 y1 y2 y3 y4,LeO (spec_ChargeText.l0 k y0 y1 y2 y3 y4) (spec_ChargeText.l0 (k + 1) y0 y1 y2 y3 y4))
 | 0 => fun _ _ _ _ _ r h => by simp [spec_ChargeText.l0] at h
 | k + 1 => by
  have ih0:=spec_ChargeText.mono_l k
  ·intro y0 y1 y2 y3 y4
   unfold spec_ChargeText.l0
   repeat' first
   | (with_reducible exact ih0 _ _ _ _ _)
   | (with_reducible exact spec_l1Num.mono _ _)
   | (with_reducible exact spec_l22Good.mono _ _ _ _)
   | (with_reducible exact LeO.refl _)
   | (with_reducible exact LeO.none _)
   | (with_reducible refine LeO.ite ?_ ?_)
   | (with_reducible refine LeO.bind ?_ (fun _ => ?_))
   | exact ih0 _ _ _ _ _
   | exact spec_l1Num.mono _ _
   | exact spec_l22Good.mono _ _ _ _
   | exact LeO.none _
   | refine LeO.ite ?_ ?_
   | refine LeO.bind ?_ (fun _ => ?_)
theorem spec_ChargeText.mono : ∀ a0 a1 a2 k,LeO (spec_ChargeText.f k a0 a1 a2) (spec_ChargeText.f (k + 1) a0 a1 a2):=by
 intro a0 a1 a2 k
 have ih0:=spec_ChargeText.mono_l k
 unfold spec_ChargeText.f
 repeat' first
   | (with_reducible exact ih0 _ _ _ _ _)
   | (with_reducible exact spec_l1Num.mono _ _)
   | (with_reducible exact spec_l22Good.mono _ _ _ _)
   | (with_reducible exact LeO.refl _)
   | (with_reducible exact LeO.none _)
   | (with_reducible refine LeO.ite ?_ ?_)
   | (with_reducible refine LeO.bind ?_ (fun _ => ?_))
   | exact ih0 _ _ _ _ _
   | exact spec_l1Num.mono _ _
   | exact spec_l22Good.mono _ _ _ _
   | exact LeO.none _
   | refine LeO.ite ?_ ?_
   | refine LeO.bind ?_ (fun _ => ?_)
def spec_ChargeText.T7 : Bool × List (List Nat × List Nat):=(true,[([],[]),([0],[0]),([],[]),([2],[2]),([],[]),([3,4],[3,4]),([5],[5]),([6],[6]),([7],[7]),([1,8],[1,8]),([9],[9]),([],[]),([11],[11]),([],[]),([12,13],[12,13]),([14],[14]),([15],[15]),([16,8],[16]),([10,17],[10,17]),([18,17,0,1,2,3,4,5,6,7,8,9,10,11,12,13,14,15,16,17,18],[0,18])])
def spec_ChargeText.B7 : List Nat := [0,1,0,4,0,28,60,124,252,511,1023,0,2048,0,14336,30720,63488,129532,262143,524287]
theorem spec_ChargeText.tab7 : rtab .any (opsOf Tryd.f11 7) = spec_ChargeText.T7:=by kernel_rfl
theorem spec_ChargeText.bits7 : waitsOk spec_ChargeText.T7.2 spec_ChargeText.B7 = true:=by kernel_rfl
set_option maxHeartbeats 8000000 in
set_option maxRecDepth 100000 in
theorem spec_ChargeText.calls (k : Nat) (a0_0 : Int) (A0_1 : Option Addr) (c0_1 : Nat) (l0_1 : List (S35)) (a0_2 : Int) (r1 : ByteArray) (r2 : Bool) (w : World) (hr0_1 : Kd.C k35 w A0_1 l0_1.length l0_1) (hc0_1 : l0_1.length ≤ c0_1) (h : spec_ChargeText.f k a0_0 l0_1 a0_2 = some (r1,r2)) :
  Calls Tryd.prog 11 #[.agg #[.int .i64 a0_0, .slice A0_1 l0_1.length c0_1, .int .i64 a0_2]] w fun e w' => e = .returned (.tuple #[.string r1, .bool r2]) ∧ Below w.heap.size w w':=by
 have hu24:=Tryd.underlying24
 have HR0_1:=Aside0.mk hr0_1
 have HC0_1:=Aside0.mk hc0_1
 clear hr0_1 hc0_1
 have HB:=Aside0.mk (Below.refl w.heap.size w)
 have H : ((spec_l22Good.f k a0_0 l0_1 a0_2).bind fun t124 => (if t124 = true then ((spec_l1Num.f k a0_0).bind fun t125 => (if t125.size + 5 ≤ 9223372036854775807 then (spec_ChargeText.l0 k (t125 ++ (⟨#[32,102,114,101,101]⟩ : ByteArray)) 0 a0_0 l0_1 a0_2) else (none))) else (some ((⟨#[]⟩ : ByteArray),false)))) = some (r1,r2):=h
 clear h
 replace H:=Option.bind_eq_some_iff.mp H
 obtain ⟨t124,A20,H⟩ := H
 replace H : (if t124 = true then ((spec_l1Num.f k a0_0).bind fun t125 => (if t125.size + 5 ≤ 9223372036854775807 then (spec_ChargeText.l0 k (t125 ++ (⟨#[32,102,114,101,101]⟩ : ByteArray)) 0 a0_0 l0_1 a0_2) else (none))) else (some ((⟨#[]⟩ : ByteArray),false))) = some (r1,r2):=H
 have A2:=Aside0.mk A20
 clear A20
 by_cases c3 : t124 = true
 ·subst c3
  have H1 : ((spec_l1Num.f k a0_0).bind fun t125 => (if t125.size + 5 ≤ 9223372036854775807 then (spec_ChargeText.l0 k (t125 ++ (⟨#[32,102,114,101,101]⟩ : ByteArray)) 0 a0_0 l0_1 a0_2) else (none))) = some (r1,r2):=by rw [if_pos rfl] at H;exact H
  clear H
  have H:=H1
  clear H1
  replace H:=Option.bind_eq_some_iff.mp H
  obtain ⟨t125,A40,H⟩ := H
  replace H : (if t125.size + 5 ≤ 9223372036854775807 then (spec_ChargeText.l0 k (t125 ++ (⟨#[32,102,114,101,101]⟩ : ByteArray)) 0 a0_0 l0_1 a0_2) else (none)) = some (r1,r2):=H
  have A4:=Aside0.mk A40
  clear A40
  by_cases c5 : t125.size + 5 ≤ 9223372036854775807
  ·rw [if_pos c5] at H
   have c5b0:=eq_true c5
   have c5b1 : decide (t125.size + 5 ≤ 9223372036854775807) = true:=decide_eq_true c5
   try have c5b2 : (9223372036854775807 < t125.size + 5) = False:=eq_false (Nat.not_lt.2 c5)
   have H':=Aside0.mk H
   clear H
   go_enter Tryd.func11,Tryd.ntmps11
   go_wp2_with (first | ((with_reducible refine gate_dst (N:=1) rfl ?_);refine box_event ?hg (N:=1) ?hd (cs:=#[.int .i64 a0_0, .slice A0_1 l0_1.length c0_1, .int .i64 a0_2]) (t:=24) ?hr ?_;(case hd => rfl);(case hg => rfl);(case hr => (go_simp;done));intro gb123 hg w6 hbox hb;have n0_:=Aside0.mk (below_step (by exact HB.out) hb);have n1_:=Aside0.mk (hbox);have n2_:=Aside0.mk ((by rw [hg];exact (below_size (by exact HB.out)) : w.heap.size ≤ gb123));have n3_:=Aside0.mk ((by rw [hg];exact (below_size (by exact HB.out)) : w.heap.size ≤ gb123));clear HB;have HB:=n0_;have BK123:=n1_;have GW123:=n2_;have GE123:=n3_;clear n0_ n1_ n2_ n3_;clear hb hbox hg;have hcz7_0 : w6.cell? ⟨gb123,0,none⟩ = some (.int .i64 a0_0):=(blk_cell BK123.out 0).trans rfl;have hcz7_1 : w6.cell? ⟨gb123,1,none⟩ = some (.slice A0_1 l0_1.length c0_1):=(blk_cell BK123.out 1).trans rfl;have hcz7_2 : w6.cell? ⟨gb123,2,none⟩ = some (.int .i64 a0_2):=(blk_cell BK123.out 2).trans rfl;have hfz7_0:=blk_frozen BK123.out 0;have hfz7_1:=blk_frozen BK123.out 1;have hfz7_2:=blk_frozen BK123.out 2) | ((with_reducible refine gate_callee (f:=24) rfl ?_);refine goesL_ (some 7) rfl rfl Tryd.func24 (by kernel_rfl) rfl #[.agg #[.int .i64 a0_0, .slice A0_1 l0_1.length c0_1, .int .i64 a0_2]] rfl (by (try simp only [List.map_toArray,List.map_cons,List.map_nil]);rfl) ?_;(with_reducible refine (spec_l22Good.calls k a0_0 _ _ l0_1 a0_2 true _ ?side1 ?side2 A2.out).mono ?_);(case side1 => repeat (exact (Kd.C_below HR0_1.out HB.out)));(case side2 => exact HC0_1.out);rintro e w8 ⟨rfl,hb⟩;refine ⟨_,rfl, ?_⟩;have n0_:=Aside0.mk (blk_below (g:=gb123) (o := .cells #[.int .i64 a0_0, .slice A0_1 l0_1.length c0_1, .int .i64 a0_2] 24 (0,0)) (by exact BK123.out) hb);have n1_:=Aside0.mk (below_step (by exact HB.out) hb);clear BK123;clear HB;have BK123:=n0_;have HB:=n1_;clear n0_ n1_;(try clear hb);have hcz9_0 : w8.cell? ⟨gb123,0,none⟩ = some (.int .i64 a0_0):=(blk_cell BK123.out 0).trans rfl;have hcz9_1 : w8.cell? ⟨gb123,1,none⟩ = some (.slice A0_1 l0_1.length c0_1):=(blk_cell BK123.out 1).trans rfl;have hcz9_2 : w8.cell? ⟨gb123,2,none⟩ = some (.int .i64 a0_2):=(blk_cell BK123.out 2).trans rfl;have hfz9_0:=blk_frozen BK123.out 0;have hfz9_1:=blk_frozen BK123.out 1;have hfz9_2:=blk_frozen BK123.out 2) | ((with_reducible refine gate_callee (f:=23) rfl ?_);refine goesL_ (some 11) rfl rfl Tryd.func23 (by kernel_rfl) rfl #[.int .i64 a0_0] rfl (by (try simp only [List.map_toArray,List.map_cons,List.map_nil]);rfl) ?_;(with_reducible refine (spec_l1Num.calls k a0_0 t125 _ A4.out).mono ?_);rintro e w10 ⟨rfl,hb⟩;refine ⟨_,rfl, ?_⟩;have n0_:=Aside0.mk (blk_below (g:=gb123) (o := .cells #[.int .i64 a0_0, .slice A0_1 l0_1.length c0_1, .int .i64 a0_2] 24 (0,0)) (by exact BK123.out) hb);have n1_:=Aside0.mk (below_step (by exact HB.out) hb);clear BK123;clear HB;have BK123:=n0_;have HB:=n1_;clear n0_ n1_;(try clear hb)))
   (skip)
   go_loopg [4,5] k (fun kq v4 v5 w' => ∃ (x4_1 : ByteArray) (x5_1 : Int),v4 = .string x4_1 ∧ v5 = .int .i64 x5_1 ∧ Aside0 (spec_ChargeText.l0 kq x4_1 x5_1 a0_0 l0_1 a0_2 = some (r1,r2)) ∧ Aside0 (kq ≤ k) ∧ Aside0 (w'.heap[gb123]? = some (.cells #[.int .i64 a0_0,(.slice A0_1 l0_1.length c0_1), .int .i64 a0_2] 24 (0,0))) ∧ Aside0 (Below w.heap.size w w'))
   case atStart => exact ⟨(t125 ++ (⟨#[32,102,114,101,101]⟩ : ByteArray)),(0),(by rfl),(by rfl),H',⟨Nat.le_refl _⟩,⟨by exact BK123.out⟩,⟨by exact HB.out⟩⟩
   case round =>
    clear H'
    try clear c1
    try clear c2
    try clear p2
    try clear c3
    try clear c5
    try clear c5b0
    try clear c5b1
    try clear c5b2
    try clear hcz7_0
    try clear hcz7_1
    try clear hcz7_2
    try clear hcz9_0
    try clear hcz9_1
    try clear hcz9_2
    try clear hfz7_0
    try clear hfz7_1
    try clear hfz7_2
    try clear hfz9_0
    try clear hfz9_1
    try clear hfz9_2
    obtain ⟨x4_1,x5_1,rfl,rfl,HA,HK1,BK123,HB⟩ := hrel
    cases gk with
    | zero => exact absurd HA.out (by simp [spec_ChargeText.l0])
    | succ k1 =>
     have H:=HA.out
     clear HA
     simp only [spec_ChargeText.l0] at H
     by_cases c11 : x5_1 < (l0_1.length : Int)
     ·rw [if_pos c11] at H
      have c11b0 : decide (x5_1 < (l0_1.length : Int)) = true:=decide_eq_true c11
      clear c11
      by_cases c12 : x4_1.size + 2 ≤ 9223372036854775807
      ·rw [if_pos c12] at H
       have c12b0:=eq_true c12
       have c12b1 : decide (x4_1.size + 2 ≤ 9223372036854775807) = true:=decide_eq_true c12
       try have c12b2 : (9223372036854775807 < x4_1.size + 2) = False:=eq_false (Nat.not_lt.2 c12)
       by_cases c13 : 0 ≤ x5_1
       ·rw [if_pos c13] at H
        have c13b0 : decide (0 ≤ x5_1) = true:=decide_eq_true c13
        clear c13
        replace H:=Option.bind_eq_some_iff.mp H
        obtain ⟨t127,A140,H⟩ := H
        replace H : (if (x4_1 ++ (⟨#[44,32]⟩ : ByteArray)).size + t127.size ≤ 9223372036854775807 then (if ((x4_1 ++ (⟨#[44,32]⟩ : ByteArray)) ++ t127).size + 3 ≤ 9223372036854775807 then ((spec_l1Num.f k1 ((rd_T35 l0_1 x5_1).f1)).bind fun t129 => (if (((x4_1 ++ (⟨#[44,32]⟩ : ByteArray)) ++ t127) ++ (⟨#[32,120,32]⟩ : ByteArray)).size + t129.size ≤ 9223372036854775807 then (spec_ChargeText.l0 k1 ((((x4_1 ++ (⟨#[44,32]⟩ : ByteArray)) ++ t127) ++ (⟨#[32,120,32]⟩ : ByteArray)) ++ t129) (wrap64 (x5_1 + 1)) a0_0 l0_1 a0_2) else (none))) else (none)) else (none)) = some (r1,r2):=H
        have A14:=Aside0.mk A140
        clear A140
        by_cases c15 : (x4_1 ++ (⟨#[44,32]⟩ : ByteArray)).size + t127.size ≤ 9223372036854775807
        ·rw [if_pos c15] at H
         have c15b0:=eq_true c15
         have c15b1 : decide ((x4_1 ++ (⟨#[44,32]⟩ : ByteArray)).size + t127.size ≤ 9223372036854775807) = true:=decide_eq_true c15
         try have c15b2 : (9223372036854775807 < (x4_1 ++ (⟨#[44,32]⟩ : ByteArray)).size + t127.size) = False:=eq_false (Nat.not_lt.2 c15)
         try have c15b4 : (9223372036854775807 < x4_1.size + 2 + t127.size) = False:=by have h_:=c15;simp only [ByteArray.size_append,show (⟨#[44,32]⟩ : ByteArray).size = 2 from rfl] at h_;exact eq_false (by omega)
         by_cases c16 : ((x4_1 ++ (⟨#[44,32]⟩ : ByteArray)) ++ t127).size + 3 ≤ 9223372036854775807
         ·rw [if_pos c16] at H
          have c16b0:=eq_true c16
          have c16b1 : decide (((x4_1 ++ (⟨#[44,32]⟩ : ByteArray)) ++ t127).size + 3 ≤ 9223372036854775807) = true:=decide_eq_true c16
          try have c16b2 : (9223372036854775807 < ((x4_1 ++ (⟨#[44,32]⟩ : ByteArray)) ++ t127).size + 3) = False:=eq_false (Nat.not_lt.2 c16)
          try have c16b4 : (9223372036854775807 < x4_1.size + 2 + t127.size + 3) = False:=by have h_:=c16;simp only [ByteArray.size_append,show (⟨#[44,32]⟩ : ByteArray).size = 2 from rfl] at h_;exact eq_false (by omega)
          replace H:=Option.bind_eq_some_iff.mp H
          obtain ⟨t129,A170,H⟩ := H
          replace H : (if (((x4_1 ++ (⟨#[44,32]⟩ : ByteArray)) ++ t127) ++ (⟨#[32,120,32]⟩ : ByteArray)).size + t129.size ≤ 9223372036854775807 then (spec_ChargeText.l0 k1 ((((x4_1 ++ (⟨#[44,32]⟩ : ByteArray)) ++ t127) ++ (⟨#[32,120,32]⟩ : ByteArray)) ++ t129) (wrap64 (x5_1 + 1)) a0_0 l0_1 a0_2) else (none)) = some (r1,r2):=H
          have A17:=Aside0.mk A170
          clear A170
          by_cases c18 : (((x4_1 ++ (⟨#[44,32]⟩ : ByteArray)) ++ t127) ++ (⟨#[32,120,32]⟩ : ByteArray)).size + t129.size ≤ 9223372036854775807
          ·rw [if_pos c18] at H
           have c18b0:=eq_true c18
           have c18b1 : decide ((((x4_1 ++ (⟨#[44,32]⟩ : ByteArray)) ++ t127) ++ (⟨#[32,120,32]⟩ : ByteArray)).size + t129.size ≤ 9223372036854775807) = true:=decide_eq_true c18
           try have c18b2 : (9223372036854775807 < (((x4_1 ++ (⟨#[44,32]⟩ : ByteArray)) ++ t127) ++ (⟨#[32,120,32]⟩ : ByteArray)).size + t129.size) = False:=eq_false (Nat.not_lt.2 c18)
           try have c18b4 : (9223372036854775807 < x4_1.size + 2 + t127.size + 3 + t129.size) = False:=by have h_:=c18;simp only [ByteArray.size_append,show (⟨#[32,120,32]⟩ : ByteArray).size = 3 from rfl,show (⟨#[44,32]⟩ : ByteArray).size = 2 from rfl] at h_;exact eq_false (by omega)
           have H':=Aside0.mk H
           clear H
           have hcz19_0 : wr.cell? ⟨gb123,0,none⟩ = some (.int .i64 a0_0):=(blk_cell BK123.out 0).trans rfl
           have hcz19_1 : wr.cell? ⟨gb123,1,none⟩ = some (.slice A0_1 l0_1.length c0_1):=(blk_cell BK123.out 1).trans rfl
           have hcz19_2 : wr.cell? ⟨gb123,2,none⟩ = some (.int .i64 a0_2):=(blk_cell BK123.out 2).trans rfl
           have hfz19_0:=blk_frozen BK123.out 0
           have hfz19_1:=blk_frozen BK123.out 1
           have hfz19_2:=blk_frozen BK123.out 2
           try go_wp2
           have n0_:=Aside0.mk (blk_drew BK123.out)
           have n1_:=Aside0.mk (below_drew1 HB.out)
           clear BK123
           clear HB
           have BK123:=n0_
           have HB:=n1_
           clear n0_ n1_
           have p126 : 0 ≤ (x5_1 : Int):=of_decide_eq_true (by (with_reducible assumption))
           have q126 : x5_1 < (l0_1.length : Int):=of_decide_eq_true (by (with_reducible assumption))
           obtain ⟨ad126,e126,hx126_0,hx126_1⟩ := at_T35 HR0_1.out x5_1 p126 q126
           have hw126_1:=hx126_1
           have hw126_0:=hx126_0
           cases e126
           replace hx126_0:=(HB.out.cell (World.block_lt_of_cell? w _ hx126_0)).trans hx126_0
           replace hx126_1:=(HB.out.cell (World.block_lt_of_cell? w _ hx126_1)).trans hx126_1
           replace p126:=eq_true p126
           replace q126:=eq_true q126
           have p128 : 0 ≤ (x5_1 : Int):=of_decide_eq_true (by (with_reducible assumption))
           have q128 : x5_1 < (l0_1.length : Int):=of_decide_eq_true (by (with_reducible assumption))
           obtain ⟨ad128,e128,hx128_0,hx128_1⟩ := at_T35 HR0_1.out x5_1 p128 q128
           have hw128_1:=hx128_1
           have hw128_0:=hx128_0
           obtain rfl : ad126 = ad128:=(by injection e128)
           replace hx128_0:=(HB.out.cell (World.block_lt_of_cell? w _ hx128_0)).trans hx128_0
           replace hx128_1:=(HB.out.cell (World.block_lt_of_cell? w _ hx128_1)).trans hx128_1
           replace p128:=eq_true p128
           replace q128:=eq_true q128
           refine start_ (n:=20) (S:=fun w' => w'.cell? ⟨gb123,0,none⟩ = some (.int .i64 a0_0) ∧ w'.cell? ⟨gb123,1,none⟩ = some (.slice (some ad126) l0_1.length c0_1) ∧ w'.cell? ⟨gb123,2,none⟩ = some (.int .i64 a0_2) ∧ w'.cell? (ad126.add ((x5_1).toNat * 2)) = some (.int .i64 ((rd_T35 l0_1 x5_1).f0)) ∧ w'.cell? ⟨(ad126.add ((x5_1).toNat * 2)).block,(ad126.add ((x5_1).toNat * 2)).off + 1,none⟩ = some (.int .i64 ((rd_T35 l0_1 x5_1).f1)) ∧ w'.cell? (ad126.add ((x5_1).toNat * 2)) = some (.int .i64 ((rd_T35 l0_1 x5_1).f0)) ∧ w'.cell? ⟨(ad126.add ((x5_1).toNat * 2)).block,(ad126.add ((x5_1).toNat * 2)).off + 1,none⟩ = some (.int .i64 ((rd_T35 l0_1 x5_1).f1))) (ds := []) #[false,false,false,false,false,false,false,false,false,false,false,false,false,false,false,false,false,false,false,false] (by kernel_rfl) rfl rfl ⟨(blk_cell BK123.out 0).trans rfl,(blk_cell BK123.out 1).trans rfl,(blk_cell BK123.out 2).trans rfl,((HB.out.cell (World.block_lt_of_cell? w _ hw126_0)).trans hw126_0),((HB.out.cell (World.block_lt_of_cell? w _ hw126_1)).trans hw126_1),((HB.out.cell (World.block_lt_of_cell? w _ hw128_0)).trans hw128_0),((HB.out.cell (World.block_lt_of_cell? w _ hw128_1)).trans hw128_1)⟩ (fun hHeld => ?_);refine with_tabW spec_ChargeText.tab7 spec_ChargeText.bits7 (fun HT_ HW_ => ?_)
           generalize wr.drew = w20 at BK123 HB hx126_0 hx126_1 hx128_0 hx128_1 hHeld ⊢
           refine pure_ (i:=0) (N:=some 20) (v:=?_) (a':=?_) #[true,false,false,false,false,false,false,false,false,false,false,false,false,false,false,false,false,false,false,false] rfl rfl (any_of HT_.out (by kernel_rfl)) (fun _ _ _ h => h) (Or.inl ⟨by rfl, ?_⟩) ?_ ?_
           rotate_left
           ·intro w'
            go_simp
            with_reducible rfl
           rotate_left
           ·simp only [Act.put,sA_,s0_,s1_,i64_w,i32_w]
            rfl
           refine pure_ (i:=1) (N:=some 21) (v:=?_) (a':=?_) #[true,true,false,false,false,false,false,false,false,false,false,false,false,false,false,false,false,false,false,false] rfl rfl (any_of HT_.out (by kernel_rfl)) (fun _ _ _ h => h) (Or.inl ⟨by rfl, ?_⟩) ?_ ?_
           rotate_left
           ·intro w'
            go_simp
            with_reducible rfl
           rotate_left
           ·simp only [Act.put,sA_,s0_,s1_,i64_w,i32_w]
            rfl
           refine pure_ (i:=2) (N:=some 22) (v:=?_) (a':=?_) #[true,true,true,false,false,false,false,false,false,false,false,false,false,false,false,false,false,false,false,false] rfl rfl (any_of HT_.out (by kernel_rfl)) (fun _ _ _ h => h) (Or.inl ⟨by rfl, ?_⟩) ?_ ?_
           rotate_left
           ·intro w'
            go_simp
            with_reducible rfl
           rotate_left
           ·simp only [Act.put,sA_,s0_,s1_,i64_w,i32_w]
            rfl
           refine pure_ (i:=4) (N:=some 24) (v:=?_) (a':=?_) #[true,true,true,false,true,false,false,false,false,false,false,false,false,false,false,false,false,false,false,false] rfl rfl (any_of HT_.out (by kernel_rfl)) (fun _ _ _ h => h) (Or.inl ⟨by rfl, ?_⟩) ?_ ?_
           rotate_left
           ·intro w'
            go_simp
            with_reducible rfl
           rotate_left
           ·simp only [Act.put,sA_,s0_,s1_,i64_w,i32_w]
            rfl
           refine pure_ (i:=11) (N:=some 31) (v:=?_) (a':=?_) #[true,true,true,false,true,false,false,false,false,false,false,true,false,false,false,false,false,false,false,false] rfl rfl (any_of HT_.out (by kernel_rfl)) (fun _ _ _ h => h) (Or.inl ⟨by rfl, ?_⟩) ?_ ?_
           rotate_left
           ·intro w'
            go_simp
            with_reducible rfl
           rotate_left
           ·simp only [Act.put,sA_,s0_,s1_,i64_w,i32_w]
            rfl
           refine pure_ (i:=13) (N:=some 33) (v:=?_) (a':=?_) #[true,true,true,false,true,false,false,false,false,false,false,true,false,true,false,false,false,false,false,false] rfl rfl (any_of HT_.out (by kernel_rfl)) (fun _ _ _ h => h) (Or.inl ⟨by rfl, ?_⟩) ?_ ?_
           rotate_left
           ·intro w'
            go_simp
            with_reducible rfl
           rotate_left
           ·simp only [Act.put,sA_,s0_,s1_,i64_w,i32_w]
            rfl
           refine take_ (i:=3) (N:=some 23) (v:=?_) (a':=?_) #[true,true,true,true,true,false,false,false,false,false,false,true,false,true,false,false,false,false,false,false] rfl rfl (take_ofW HT_.out HW_.out (by kernel_rfl)) (fun _ _ _ h => h) (Or.inl ⟨by rfl, ?_⟩) hHeld ?_ ?_
           rotate_left
           ·rintro w' ⟨s0,s1,s2,s3,s4,s5,s6⟩
            go_simp
            with_reducible rfl
           rotate_left
           ·simp only [Act.put,sA_,s0_,s1_,i64_w,i32_w]
            rfl
           refine pure_ (i:=5) (N:=some 25) (v:=?_) (a':=?_) #[true,true,true,true,true,true,false,false,false,false,false,true,false,true,false,false,false,false,false,false] rfl rfl (any_of HT_.out (by kernel_rfl)) (fun _ _ _ h => h) (Or.inl ⟨by rfl, ?_⟩) ?_ ?_
           rotate_left
           ·intro w'
            go_simp
            with_reducible rfl
           rotate_left
           ·simp only [Act.put,sA_,s0_,s1_,i64_w,i32_w]
            rfl
           refine pure_ (i:=6) (N:=some 26) (v:=?_) (a':=?_) #[true,true,true,true,true,true,true,false,false,false,false,true,false,true,false,false,false,false,false,false] rfl rfl (any_of HT_.out (by kernel_rfl)) (fun _ _ _ h => h) (Or.inl ⟨by rfl, ?_⟩) ?_ ?_
           rotate_left
           ·intro w'
            go_simp
            with_reducible rfl
           rotate_left
           ·simp only [Act.put,sA_,s0_,s1_,i64_w,i32_w]
            rfl
           refine take_ (i:=7) (N:=some 27) (v:=?_) (a':=?_) #[true,true,true,true,true,true,true,true,false,false,false,true,false,true,false,false,false,false,false,false] rfl rfl (take_ofW HT_.out HW_.out (by kernel_rfl)) (fun _ _ _ h => h) (Or.inl ⟨by rfl, ?_⟩) hHeld ?_ ?_
           rotate_left
           ·rintro w' ⟨s0,s1,s2,s3,s4,s5,s6⟩
            go_simp
            with_reducible rfl
           rotate_left
           ·simp only [Act.put,sA_,s0_,s1_,i64_w,i32_w]
            rfl
           refine take_ (i:=12) (N:=some 32) (v:=?_) (a':=?_) #[true,true,true,true,true,true,true,true,false,false,false,true,true,true,false,false,false,false,false,false] rfl rfl (take_ofW HT_.out HW_.out (by kernel_rfl)) (fun _ _ _ h => h) (Or.inl ⟨by rfl, ?_⟩) hHeld ?_ ?_
           rotate_left
           ·rintro w' ⟨s0,s1,s2,s3,s4,s5,s6⟩
            go_simp
            with_reducible rfl
           rotate_left
           ·simp only [Act.put,sA_,s0_,s1_,i64_w,i32_w]
            rfl
           refine pure_ (i:=14) (N:=some 34) (v:=?_) (a':=?_) #[true,true,true,true,true,true,true,true,false,false,false,true,true,true,true,false,false,false,false,false] rfl rfl (any_of HT_.out (by kernel_rfl)) (fun _ _ _ h => h) (Or.inl ⟨by rfl, ?_⟩) ?_ ?_
           rotate_left
           ·intro w'
            go_simp
            with_reducible rfl
           rotate_left
           ·simp only [Act.put,sA_,s0_,s1_,i64_w,i32_w]
            rfl
           refine pure_ (i:=15) (N:=some 35) (v:=?_) (a':=?_) #[true,true,true,true,true,true,true,true,false,false,false,true,true,true,true,true,false,false,false,false] rfl rfl (any_of HT_.out (by kernel_rfl)) (fun _ _ _ h => h) (Or.inl ⟨by rfl, ?_⟩) ?_ ?_
           rotate_left
           ·intro w'
            go_simp
            with_reducible rfl
           rotate_left
           ·simp only [Act.put,sA_,s0_,s1_,i64_w,i32_w]
            rfl
           refine take_ (i:=16) (N:=some 36) (v:=?_) (a':=?_) #[true,true,true,true,true,true,true,true,false,false,false,true,true,true,true,true,true,false,false,false] rfl rfl (take_ofW HT_.out HW_.out (by kernel_rfl)) (fun _ _ _ h => h) (Or.inl ⟨by rfl, ?_⟩) hHeld ?_ ?_
           rotate_left
           ·rintro w' ⟨s0,s1,s2,s3,s4,s5,s6⟩
            go_simp
            with_reducible rfl
           rotate_left
           ·simp only [Act.put,sA_,s0_,s1_,i64_w,i32_w]
            rfl
           refine one_ (i:=8) (N:=some 28) #[true,true,true,true,true,true,true,true,true,false,false,true,true,true,true,true,true,false,false,false] rfl rfl (one_of HT_.out (by kernel_rfl)) (by decide) (fun K hK => ?_)
           refine goes_ Tryd.func23 (by kernel_rfl) rfl #[.int .i64 ((rd_T35 l0_1 x5_1).f0)] (by rfl) rfl rfl (by (try simp only [List.map_toArray,List.map_cons,List.map_nil]);rfl) ?_
           with_reducible refine (spec_l1Num.calls k1 ((rd_T35 l0_1 x5_1).f0) t127 _ A14.out).mono ?_
           rintro e w21 ⟨rfl,hb⟩
           refine ⟨_,rfl, ?_⟩
           have n0_:=Aside0.mk (blk_below (g:=gb123) (o := .cells #[.int .i64 a0_0, .slice (some ad126) l0_1.length c0_1, .int .i64 a0_2] 24 (0,0)) (by exact BK123.out) hb)
           have n1_:=Aside0.mk (below_step (by exact HB.out) hb)
           clear BK123
           clear HB
           have BK123:=n0_
           have HB:=n1_
           clear n0_ n1_
           (try clear hb)
           (skip)
           (skip)
           (skip)
           refine hK.out _ _ ⟨(blk_cell BK123.out 0).trans rfl,(blk_cell BK123.out 1).trans rfl,(blk_cell BK123.out 2).trans rfl,((HB.out.cell (World.block_lt_of_cell? w _ hw126_0)).trans hw126_0),((HB.out.cell (World.block_lt_of_cell? w _ hw126_1)).trans hw126_1),((HB.out.cell (World.block_lt_of_cell? w _ hw128_0)).trans hw128_0),((HB.out.cell (World.block_lt_of_cell? w _ hw128_1)).trans hw128_1)⟩ (fun hHeld => ?_)
           clear hK K
           refine norm_ (a':=?_) ?_ ?_
           rotate_left
           ·show Act.put _ (some 28) _ = _
            simp only [Act.put,sA_,s0_,s1_,i64_w,i32_w]
            rfl
           refine pure_ (i:=9) (N:=some 29) (v:=?_) (a':=?_) #[true,true,true,true,true,true,true,true,true,true,false,true,true,true,true,true,true,false,false,false] rfl rfl (any_of HT_.out (by kernel_rfl)) (fun _ _ _ h => h) (Or.inl ⟨by rfl, ?_⟩) ?_ ?_
           rotate_left
           ·intro w'
            go_simp
            with_reducible rfl
           rotate_left
           ·simp only [Act.put,sA_,s0_,s1_,i64_w,i32_w]
            rfl
           refine pure_ (i:=10) (N:=some 30) (v:=?_) (a':=?_) #[true,true,true,true,true,true,true,true,true,true,true,true,true,true,true,true,true,false,false,false] rfl rfl (any_of HT_.out (by kernel_rfl)) (fun _ _ _ h => h) (Or.inl ⟨by rfl, ?_⟩) ?_ ?_
           rotate_left
           ·intro w'
            go_simp
            with_reducible rfl
           rotate_left
           ·simp only [Act.put,sA_,s0_,s1_,i64_w,i32_w]
            rfl
           refine one_ (i:=17) (N:=some 37) #[true,true,true,true,true,true,true,true,true,true,true,true,true,true,true,true,true,true,false,false] rfl rfl (one_of HT_.out (by kernel_rfl)) (by decide) (fun K hK => ?_)
           refine goes_ Tryd.func23 (by kernel_rfl) rfl #[.int .i64 ((rd_T35 l0_1 x5_1).f1)] (by rfl) rfl rfl (by (try simp only [List.map_toArray,List.map_cons,List.map_nil]);rfl) ?_
           with_reducible refine (spec_l1Num.calls k1 ((rd_T35 l0_1 x5_1).f1) t129 _ A17.out).mono ?_
           rintro e w22 ⟨rfl,hb⟩
           refine ⟨_,rfl, ?_⟩
           have n0_:=Aside0.mk (blk_below (g:=gb123) (o := .cells #[.int .i64 a0_0, .slice (some ad126) l0_1.length c0_1, .int .i64 a0_2] 24 (0,0)) (by exact BK123.out) hb)
           have n1_:=Aside0.mk (below_step (by exact HB.out) hb)
           clear BK123
           clear HB
           have BK123:=n0_
           have HB:=n1_
           clear n0_ n1_
           (try clear hb)
           (skip)
           (skip)
           (skip)
           refine hK.out _ _ ⟨(blk_cell BK123.out 0).trans rfl,(blk_cell BK123.out 1).trans rfl,(blk_cell BK123.out 2).trans rfl,((HB.out.cell (World.block_lt_of_cell? w _ hw126_0)).trans hw126_0),((HB.out.cell (World.block_lt_of_cell? w _ hw126_1)).trans hw126_1),((HB.out.cell (World.block_lt_of_cell? w _ hw128_0)).trans hw128_0),((HB.out.cell (World.block_lt_of_cell? w _ hw128_1)).trans hw128_1)⟩ (fun hHeld => ?_)
           clear hK K
           refine norm_ (a':=?_) ?_ ?_
           rotate_left
           ·show Act.put _ (some 37) _ = _
            simp only [Act.put,sA_,s0_,s1_,i64_w,i32_w]
            rfl
           refine pure_ (i:=18) (N:=some 38) (v:=?_) (a':=?_) #[true,true,true,true,true,true,true,true,true,true,true,true,true,true,true,true,true,true,true,false] rfl rfl (any_of HT_.out (by kernel_rfl)) (fun _ _ _ h => h) (Or.inl ⟨by rfl, ?_⟩) ?_ ?_
           rotate_left
           ·intro w'
            go_simp
            with_reducible rfl
           rotate_left
           ·simp only [Act.put,sA_,s0_,s1_,i64_w,i32_w]
            rfl
           refine pure_ (i:=19) (N:=some 4) (v:=?_) (a':=?_) #[true,true,true,true,true,true,true,true,true,true,true,true,true,true,true,true,true,true,true,true] rfl rfl (any_of HT_.out (by kernel_rfl)) (fun _ _ _ h => h) (Or.inl ⟨by rfl, ?_⟩) ?_ ?_
           rotate_left
           ·intro w'
            go_simp
            with_reducible rfl
           rotate_left
           ·simp only [Act.put,sA_,s0_,s1_,i64_w,i32_w]
            rfl
           refine done_ (done_of HT_.out (by kernel_rfl)) ?_
           try go_wp2
           go_roundg k1
           case measure => have:=HK1.out;omega
           case rel => exact ⟨((((x4_1 ++ (⟨#[44,32]⟩ : ByteArray)) ++ t127) ++ (⟨#[32,120,32]⟩ : ByteArray)) ++ t129),(wrap64 (x5_1 + 1)),(by rfl),(by rfl),H',⟨by have:=HK1.out;omega⟩,⟨by exact BK123.out⟩,⟨by exact HB.out⟩⟩
          ·rw [if_neg c18] at H
           exact absurd H (by simp)
         ·rw [if_neg c16] at H
          exact absurd H (by simp)
        ·rw [if_neg c15] at H
         exact absurd H (by simp)
       ·rw [if_neg c13] at H
        exact absurd H (by simp)
      ·rw [if_neg c12] at H
       exact absurd H (by simp)
     ·rw [if_neg c11] at H
      have c11b0 : decide (x5_1 < (l0_1.length : Int)) = false:=decide_eq_false c11
      clear c11
      by_cases c23 : x4_1.size + 8 ≤ 9223372036854775807
      ·rw [if_pos c23] at H
       have c23b0:=eq_true c23
       have c23b1 : decide (x4_1.size + 8 ≤ 9223372036854775807) = true:=decide_eq_true c23
       try have c23b2 : (9223372036854775807 < x4_1.size + 8) = False:=eq_false (Nat.not_lt.2 c23)
       replace H:=Option.bind_eq_some_iff.mp H
       obtain ⟨t130,A240,H⟩ := H
       replace H : (if (x4_1 ++ (⟨#[44,32,108,97,114,103,101,32]⟩ : ByteArray)).size + t130.size ≤ 9223372036854775807 then (some ((x4_1 ++ (⟨#[44,32,108,97,114,103,101,32]⟩ : ByteArray)) ++ t130,true)) else (none)) = some (r1,r2):=H
       have A24:=Aside0.mk A240
       clear A240
       by_cases c25 : (x4_1 ++ (⟨#[44,32,108,97,114,103,101,32]⟩ : ByteArray)).size + t130.size ≤ 9223372036854775807
       ·rw [if_pos c25] at H
        have c25b0:=eq_true c25
        have c25b1 : decide ((x4_1 ++ (⟨#[44,32,108,97,114,103,101,32]⟩ : ByteArray)).size + t130.size ≤ 9223372036854775807) = true:=decide_eq_true c25
        try have c25b2 : (9223372036854775807 < (x4_1 ++ (⟨#[44,32,108,97,114,103,101,32]⟩ : ByteArray)).size + t130.size) = False:=eq_false (Nat.not_lt.2 c25)
        try have c25b4 : (9223372036854775807 < x4_1.size + 8 + t130.size) = False:=by have h_:=c25;simp only [ByteArray.size_append,show (⟨#[44,32,108,97,114,103,101,32]⟩ : ByteArray).size = 8 from rfl] at h_;exact eq_false (by omega)
        simp only [Option.some.injEq,Prod.mk.injEq] at H
        obtain ⟨rfl,rfl⟩ := H
        have hcz26_0 : wr.cell? ⟨gb123,0,none⟩ = some (.int .i64 a0_0):=(blk_cell BK123.out 0).trans rfl
        have hcz26_1 : wr.cell? ⟨gb123,1,none⟩ = some (.slice A0_1 l0_1.length c0_1):=(blk_cell BK123.out 1).trans rfl
        have hcz26_2 : wr.cell? ⟨gb123,2,none⟩ = some (.int .i64 a0_2):=(blk_cell BK123.out 2).trans rfl
        have hfz26_0:=blk_frozen BK123.out 0
        have hfz26_1:=blk_frozen BK123.out 1
        have hfz26_2:=blk_frozen BK123.out 2
        go_wp2_with (((with_reducible refine gate_callee (f:=23) rfl ?_);refine goesL_ (some 43) rfl rfl Tryd.func23 (by kernel_rfl) rfl #[.int .i64 a0_2] rfl (by (try simp only [List.map_toArray,List.map_cons,List.map_nil]);rfl) ?_;(with_reducible refine (spec_l1Num.calls k1 a0_2 t130 _ A24.out).mono ?_);rintro e w27 ⟨rfl,hb⟩;refine ⟨_,rfl, ?_⟩;have n0_:=Aside0.mk (blk_below (g:=gb123) (o := .cells #[.int .i64 a0_0, .slice A0_1 l0_1.length c0_1, .int .i64 a0_2] 24 (0,0)) (by exact BK123.out) hb);have n1_:=Aside0.mk (below_step (by exact HB.out) hb);clear BK123;clear HB;have BK123:=n0_;have HB:=n1_;clear n0_ n1_;(try clear hb)))
        go_ret2
        exact ⟨by rfl,by exact HB.out⟩
       ·rw [if_neg c25] at H
        exact absurd H (by simp)
      ·rw [if_neg c23] at H
       exact absurd H (by simp)
  ·rw [if_neg c5] at H
   exact absurd H (by simp)
 ·replace c3:=Bool.eq_false_iff.mpr c3
  subst c3
  have H1 : (some ((⟨#[]⟩ : ByteArray),false)) = some (r1,r2):=by rw [if_neg (show ¬ (false = true) by decide)] at H;exact H
  clear H
  have H:=H1
  clear H1
  simp only [Option.some.injEq,Prod.mk.injEq] at H
  obtain ⟨rfl,rfl⟩ := H
  go_enter Tryd.func11,Tryd.ntmps11
  go_wp2_with (first | ((with_reducible refine gate_dst (N:=1) rfl ?_);refine box_event ?hg (N:=1) ?hd (cs:=#[.int .i64 a0_0, .slice A0_1 l0_1.length c0_1, .int .i64 a0_2]) (t:=24) ?hr ?_;(case hd => rfl);(case hg => rfl);(case hr => (go_simp;done));intro gb123 hg w28 hbox hb;have n0_:=Aside0.mk (below_step (by exact HB.out) hb);have n1_:=Aside0.mk (hbox);have n2_:=Aside0.mk ((by rw [hg];exact (below_size (by exact HB.out)) : w.heap.size ≤ gb123));have n3_:=Aside0.mk ((by rw [hg];exact (below_size (by exact HB.out)) : w.heap.size ≤ gb123));clear HB;have HB:=n0_;have BK123:=n1_;have GW123:=n2_;have GE123:=n3_;clear n0_ n1_ n2_ n3_;clear hb hbox hg;have hcz29_0 : w28.cell? ⟨gb123,0,none⟩ = some (.int .i64 a0_0):=(blk_cell BK123.out 0).trans rfl;have hcz29_1 : w28.cell? ⟨gb123,1,none⟩ = some (.slice A0_1 l0_1.length c0_1):=(blk_cell BK123.out 1).trans rfl;have hcz29_2 : w28.cell? ⟨gb123,2,none⟩ = some (.int .i64 a0_2):=(blk_cell BK123.out 2).trans rfl;have hfz29_0:=blk_frozen BK123.out 0;have hfz29_1:=blk_frozen BK123.out 1;have hfz29_2:=blk_frozen BK123.out 2) | ((with_reducible refine gate_callee (f:=24) rfl ?_);refine goesL_ (some 7) rfl rfl Tryd.func24 (by kernel_rfl) rfl #[.agg #[.int .i64 a0_0, .slice A0_1 l0_1.length c0_1, .int .i64 a0_2]] rfl (by (try simp only [List.map_toArray,List.map_cons,List.map_nil]);rfl) ?_;(with_reducible refine (spec_l22Good.calls k a0_0 _ _ l0_1 a0_2 false _ ?side1 ?side2 A2.out).mono ?_);(case side1 => repeat (exact (Kd.C_below HR0_1.out HB.out)));(case side2 => exact HC0_1.out);rintro e w30 ⟨rfl,hb⟩;refine ⟨_,rfl, ?_⟩;have n0_:=Aside0.mk (blk_below (g:=gb123) (o := .cells #[.int .i64 a0_0, .slice A0_1 l0_1.length c0_1, .int .i64 a0_2] 24 (0,0)) (by exact BK123.out) hb);have n1_:=Aside0.mk (below_step (by exact HB.out) hb);clear BK123;clear HB;have BK123:=n0_;have HB:=n1_;clear n0_ n1_;(try clear hb)))
  go_ret2
  exact ⟨by rfl,by exact HB.out⟩

end Go.Proofs.YthogpinmmddicaaDoor.PFnExactParseCharge
