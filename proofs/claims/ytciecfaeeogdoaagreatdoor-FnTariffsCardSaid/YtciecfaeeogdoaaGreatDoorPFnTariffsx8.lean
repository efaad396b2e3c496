-- Written by a program of this session, over the kit's print (wip/xprint.py)
import Derived.Test.YtciecfaeeogdoaaGreatDoorPFnTariffsx0
import Derived.Test.YtciecfaeeogdoaaGreatDoorPFnTariffsx1
import Derived.Test.YtciecfaeeogdoaaGreatDoorPFnTariffsx2
import Derived.Test.YtciecfaeeogdoaaGreatDoorPFnTariffsx3
import Derived.Test.YtciecfaeeogdoaaGreatDoorPFnTariffsx6
namespace Go.Proofs.YtciecfaeeogdoaaGreatDoor.PFnTariffs
open Go.RowKit Go.Proofs.YtciecfaeeogdoaaGreatDoorW.PrintWords Go.Proofs.YtciecfaeeogdoaaGreatDoorW.PrintLast Go.Proofs.YtciecfaeeogdoaaGreatDoorW.PrintMore
attribute [local go_sem] max2_int min2_int max_two min_two max_three min_three max_four min_four   -- for this text's walks alone
set_option linter.unusedVariables false
set_option linter.unusedSimpArgs false

attribute [local go_sem high] eqA45
/-! ### laws_rCharges: function 9 -/
mutual
def laws_rCharges.j0 : Nat → Bool → Int → List (S45) → Int → Int → List (S45) → Int → Option (Bool)
 | 0,_,_,_,_,_,_,_ => none
 | k + 1,x26,x289000,x289001,x289002,x290000,x290001,x290002 => if x26 = true then (some false) else (laws_rCharges.l0 k 0 x289000 x289001 x289002 x290000 x290001 x290002)
def laws_rCharges.l0 : Nat → Int → Int → List (S45) → Int → Int → List (S45) → Int → Option (Bool)
 | 0,_,_,_,_,_,_,_ => none
 | k + 1,x5,x289000,x289001,x289002,x290000,x290001,x290002 => if x5 < (x289001.length : Int) then (if 0 ≤ x5 then (if x5 < (x290001.length : Int) then (if (!(((rd_T45 x289001 x5).f0) == ((rd_T45 x290001 x5).f0)) || (!(((rd_T45 x289001 x5).f1) == ((rd_T45 x290001 x5).f1)))) = true then (some false) else (laws_rCharges.l0 k (wrap64 (x5 + 1)) x289000 x289001 x289002 x290000 x290001 x290002)) else (none)) else (none)) else (some true)
end
def laws_rCharges.f (k : Nat) (a0_0 : Int) (l0_1 : List (S45)) (a0_2 : Int) (a1_0 : Int) (l1_1 : List (S45)) (a1_2 : Int) : Option (Bool):=if a0_0 = a1_0 then (if a0_2 = a1_2 then (laws_rCharges.j0 k ((l0_1.length : Int) != (l1_1.length : Int)) a0_0 l0_1 a0_2 a1_0 l1_1 a1_2) else (laws_rCharges.j0 k true a0_0 l0_1 a0_2 a1_0 l1_1 a1_2)) else (laws_rCharges.j0 k true a0_0 l0_1 a0_2 a1_0 l1_1 a1_2)
theorem laws_rCharges.mono_l : ∀ k,(∀ y0 y1 y2 y3 y4 y5 y6,LeO (laws_rCharges.j0 k y0 y1 y2 y3 y4 y5 y6) (laws_rCharges.j0 (k + 1) y0 y1 y2 y3 y4 y5 y6)) ∧ (∀ y0 y1 y2 y3 y4 y5 y6,LeO (laws_rCharges.l0 k y0 y1 y2 y3 y4 y5 y6) (laws_rCharges.l0 (k + 1) y0 y1 y2 y3 y4 y5 y6))
 | 0 => ⟨fun _ _ _ _ _ _ _ r h => by simp [laws_rCharges.j0] at h,fun _ _ _ _ _ _ _ r h => by simp [laws_rCharges.l0] at h⟩
 | k + 1 => by
  obtain ⟨ih0,ih1⟩ := laws_rCharges.mono_l k;refine ⟨?_, ?_⟩
  ·intro y0 y1 y2 y3 y4 y5 y6
   unfold laws_rCharges.j0
   repeat' first
   | (with_reducible exact ih0 _ _ _ _ _ _ _)
   | (with_reducible exact ih1 _ _ _ _ _ _ _)
   | (with_reducible exact LeO.refl _)
   | (with_reducible exact LeO.none _)
   | (with_reducible refine LeO.ite ?_ ?_)
   | (with_reducible refine LeO.bind ?_ (fun _ => ?_))
   | exact ih0 _ _ _ _ _ _ _
   | exact ih1 _ _ _ _ _ _ _
   | exact LeO.none _
   | refine LeO.ite ?_ ?_
   | refine LeO.bind ?_ (fun _ => ?_)
  ·intro y0 y1 y2 y3 y4 y5 y6
   unfold laws_rCharges.l0
   repeat' first
   | (with_reducible exact ih0 _ _ _ _ _ _ _)
   | (with_reducible exact ih1 _ _ _ _ _ _ _)
   | (with_reducible exact LeO.refl _)
   | (with_reducible exact LeO.none _)
   | (with_reducible refine LeO.ite ?_ ?_)
   | (with_reducible refine LeO.bind ?_ (fun _ => ?_))
   | exact ih0 _ _ _ _ _ _ _
   | exact ih1 _ _ _ _ _ _ _
   | exact LeO.none _
   | refine LeO.ite ?_ ?_
   | refine LeO.bind ?_ (fun _ => ?_)
theorem laws_rCharges.mono : ∀ a0 a1 a2 a3 a4 a5 k,LeO (laws_rCharges.f k a0 a1 a2 a3 a4 a5) (laws_rCharges.f (k + 1) a0 a1 a2 a3 a4 a5):=by
 intro a0 a1 a2 a3 a4 a5 k;obtain ⟨ih0,ih1⟩ := laws_rCharges.mono_l k
 unfold laws_rCharges.f
 repeat' first
   | (with_reducible exact ih0 _ _ _ _ _ _ _)
   | (with_reducible exact ih1 _ _ _ _ _ _ _)
   | (with_reducible exact LeO.refl _)
   | (with_reducible exact LeO.none _)
   | (with_reducible refine LeO.ite ?_ ?_)
   | (with_reducible refine LeO.bind ?_ (fun _ => ?_))
   | exact ih0 _ _ _ _ _ _ _
   | exact ih1 _ _ _ _ _ _ _
   | exact LeO.none _
   | refine LeO.ite ?_ ?_
   | refine LeO.bind ?_ (fun _ => ?_)
set_option maxHeartbeats 8000000 in
set_option maxRecDepth 100000 in
theorem laws_rCharges.calls (k : Nat) (a0_0 : Int) (A0_1 : Option Addr) (c0_1 : Nat) (l0_1 : List (S45)) (a0_2 : Int) (a1_0 : Int) (A1_1 : Option Addr) (c1_1 : Nat) (l1_1 : List (S45)) (a1_2 : Int) (r : Bool) (w : World) (hr0_1 : Kd.C k45 w A0_1 l0_1.length l0_1) (hc0_1 : l0_1.length ≤ c0_1) (hr1_1 : Kd.C k45 w A1_1 l1_1.length l1_1) (hc1_1 : l1_1.length ≤ c1_1) (h : laws_rCharges.f k a0_0 l0_1 a0_2 a1_0 l1_1 a1_2 = some r) :
  Calls Tryz.prog 9 #[.agg #[.int .i64 a0_0, .slice A0_1 l0_1.length c0_1, .int .i64 a0_2], .agg #[.int .i64 a1_0, .slice A1_1 l1_1.length c1_1, .int .i64 a1_2]] w fun e w' => e = .returned (.bool r) ∧ Below w.heap.size w w':=by
 have hu26:=Tryz.underlying26;have hu45:=Tryz.underlying45;have HR0_1:=am_ hr0_1;have HC0_1:=am_ hc0_1;clear hr0_1 hc0_1;have HR1_1:=am_ hr1_1;have HC1_1:=am_ hc1_1;clear hr1_1 hc1_1;have HB:=am_ (Below.refl w.heap.size w);have H : (if a0_0 = a1_0 then (if a0_2 = a1_2 then (laws_rCharges.j0 k ((l0_1.length : Int) != (l1_1.length : Int)) a0_0 l0_1 a0_2 a1_0 l1_1 a1_2) else (laws_rCharges.j0 k true a0_0 l0_1 a0_2 a1_0 l1_1 a1_2)) else (laws_rCharges.j0 k true a0_0 l0_1 a0_2 a1_0 l1_1 a1_2)) = some r:=h;clear h;have HC3:=am_ H;clear H
 go_enter Tryz.func9,Tryz.ntmps9
 go_upto_region 1 with (first | ((with_reducible refine gate_dst (N:=2) rfl ?_);(try (refine gate_guard (by rfl) ?_;dsimp only));refine box_event ?hg (N:=2) ?hd (cs:=#[.int .i64 a0_0, .slice A0_1 l0_1.length c0_1, .int .i64 a0_2]) (t:=26) ?hr ?_;(case hd => rfl);(case hg => rfl);(case hr => (go_simp;done));intro gb288 hg w4 hbox hb;have n0_:=am_ (below_step (by exact HB.out) hb);have n1_:=am_ hbox;have n2_:=am_ (ge_ hg (by exact HB.out));have n3_:=am_ (ge_ hg (by exact HB.out));clear HB;have HB:=n0_;have BK288:=n1_;have GW288:=n2_;have GE288:=n3_;clear n0_ n1_ n2_ n3_;clear hb hbox hg) | ((with_reducible refine gate_dst (N:=3) rfl ?_);(try (refine gate_guard (by rfl) ?_;dsimp only));refine box_event ?hg (N:=3) ?hd (cs:=#[.int .i64 a1_0, .slice A1_1 l1_1.length c1_1, .int .i64 a1_2]) (t:=26) ?hr ?_;(case hd => rfl);(case hg => rfl);(case hr => (go_simp;done));intro gb289 hg w5 hbox hb;have n0_:=am_ (blk_below (by exact BK288.out) hb);have n1_:=am_ (below_step (by exact HB.out) hb);have n2_:=am_ hbox;have n3_:=am_ (ge_ hg (by exact HB.out));have n4_:=am_ (ge_ hg (by exact HB.out));have n5_:=am_ (nl_ hg (by exact BK288.out));have n6_:=am_ (ng_ hg (by exact BK288.out));clear BK288;clear HB;have BK288:=n0_;have HB:=n1_;have BK289:=n2_;have GW289:=n3_;have GE289:=n4_;have NB288_289:=n5_;have NB289_288:=n6_;clear n0_ n1_ n2_ n3_ n4_ n5_ n6_;clear hb hbox hg))
 repeat (go_quiet (fail);go_upto_region 1 with (first | ((with_reducible refine gate_dst (N:=2) rfl ?_);(try (refine gate_guard (by rfl) ?_;dsimp only));refine box_event ?hg (N:=2) ?hd (cs:=#[.int .i64 a0_0, .slice A0_1 l0_1.length c0_1, .int .i64 a0_2]) (t:=26) ?hr ?_;(case hd => rfl);(case hg => rfl);(case hr => first | (go_simp;done) | (go_simp;rfl));intro gb288 hg w4 hbox hb;have n0_:=am_ (below_step (by repeat (first | (with_reducible first | exact HB.out | apply below_alloc | apply pw_below_drewN | apply below_drew1) | exact HB.out)) hb);have n1_:=am_ hbox;have n2_:=am_ ((by rw [hg];exact (below_size (by repeat (first | (with_reducible first | exact HB.out | apply below_alloc | apply pw_below_drewN | apply below_drew1) | exact HB.out))) : w.heap.size ≤ gb288));have n3_:=am_ ((by rw [hg];exact (below_size (by repeat (first | (with_reducible first | exact HB.out | apply below_alloc | apply pw_below_drewN | apply below_drew1) | exact HB.out))) : w.heap.size ≤ gb288));clear HB;have HB:=n0_;have BK288:=n1_;have GW288:=n2_;have GE288:=n3_;clear n0_ n1_ n2_ n3_;clear hb hbox hg) | ((with_reducible refine gate_dst (N:=3) rfl ?_);(try (refine gate_guard (by rfl) ?_;dsimp only));refine box_event ?hg (N:=3) ?hd (cs:=#[.int .i64 a1_0, .slice A1_1 l1_1.length c1_1, .int .i64 a1_2]) (t:=26) ?hr ?_;(case hd => rfl);(case hg => rfl);(case hr => first | (go_simp;done) | (go_simp;rfl));intro gb289 hg w5 hbox hb;have n0_:=am_ (blk_below (g:=gb288) (o := .cells #[.int .i64 a0_0, .slice A0_1 l0_1.length c0_1, .int .i64 a0_2] 26 (0,0)) (by (with_reducible repeat (first | refine blk_drewN ?_ _ | refine blk_drew ?_ | refine blk_alloc ?_ _));exact BK288.out) hb);have n1_:=am_ (below_step (by repeat (first | (with_reducible first | exact HB.out | apply below_alloc | apply pw_below_drewN | apply below_drew1 | refine below_set ?_ GE288.out) | exact HB.out)) hb);have n2_:=am_ hbox;have n3_:=am_ ((by rw [hg];exact (below_size (by repeat (first | (with_reducible first | exact HB.out | apply below_alloc | apply pw_below_drewN | apply below_drew1 | refine below_set ?_ GE288.out) | exact HB.out))) : w.heap.size ≤ gb289));have n4_:=am_ ((by rw [hg];exact (below_size (by repeat (first | (with_reducible first | exact HB.out | apply below_alloc | apply pw_below_drewN | apply below_drew1 | refine below_set ?_ GE288.out) | exact HB.out))) : w.heap.size ≤ gb289));have n5_:=am_ ((by rw [hg];exact Nat.ne_of_lt (blk_lt (g:=gb288) (o := .cells #[.int .i64 a0_0, .slice A0_1 l0_1.length c0_1, .int .i64 a0_2] 26 (0,0)) (by (with_reducible repeat (first | refine blk_drewN ?_ _ | refine blk_drew ?_ | refine blk_alloc ?_ _));exact BK288.out)) : gb288 ≠ gb289));have n6_:=am_ ((by rw [hg];exact Nat.ne_of_gt (blk_lt (g:=gb288) (o := .cells #[.int .i64 a0_0, .slice A0_1 l0_1.length c0_1, .int .i64 a0_2] 26 (0,0)) (by (with_reducible repeat (first | refine blk_drewN ?_ _ | refine blk_drew ?_ | refine blk_alloc ?_ _));exact BK288.out)) : gb289 ≠ gb288));clear BK288;clear HB;have BK288:=n0_;have HB:=n1_;have BK289:=n2_;have GW289:=n3_;have GE289:=n4_;have NB288_289:=n5_;have NB289_288:=n6_;clear n0_ n1_ n2_ n3_ n4_ n5_ n6_;clear hb hbox hg)))
 (skip)
 go_cut [26] (fun v26 wc => ∃ (kq : Nat) (x26_2 : Bool),v26 = .bool x26_2 ∧ Aside0 (laws_rCharges.j0 kq x26_2 a0_0 l0_1 a0_2 a1_0 l1_1 a1_2 = some r) ∧ Aside0 (kq ≤ k) ∧ Aside0 (wc.heap[gb288]? = some (.cells #[.int .i64 a0_0,(.slice A0_1 l0_1.length c0_1), .int .i64 a0_2] 26 (0,0))) ∧ Aside0 (wc.heap[gb289]? = some (.cells #[.int .i64 a1_0,(.slice A1_1 l1_1.length c1_1), .int .i64 a1_2] 26 (0,0))) ∧ Aside0 (Below w.heap.size w wc))
 case first =>
  have H:=HC3.out;clear HC3
  by_cases c6 : a0_0 = a1_0
  ·rw [if_pos c6] at H;have c6b0 : (a0_0 == a1_0) = true:=beq_iff_eq.mpr c6;have c6b1 : (a0_0 != a1_0) = false:=bne_eq_false_iff_eq.mpr c6;clear c6
   (skip)
   by_cases c7 : a0_2 = a1_2
   ·rw [if_pos c7] at H;have c7b0 : (a0_2 == a1_2) = true:=beq_iff_eq.mpr c7;have c7b1 : (a0_2 != a1_2) = false:=bne_eq_false_iff_eq.mpr c7;clear c7;have H':=am_ H;clear H;have hnb8:=NB288_289.out;have hnc8:=NB289_288.out;have hcz9_0:=c3_0 BK288.out;have hcz9_1:=c3_1 BK288.out;have hcz9_2:=c3_2 BK288.out;have hfz9_0:=blk_frozen BK288.out 0;have hfz9_1:=blk_frozen BK288.out 1;have hfz9_2:=blk_frozen BK288.out 2;have hcz10_0:=c3_0 BK289.out;have hcz10_1:=c3_1 BK289.out;have hcz10_2:=c3_2 BK289.out;have hfz10_0:=blk_frozen BK289.out 0;have hfz10_1:=blk_frozen BK289.out 1;have hfz10_2:=blk_frozen BK289.out 2
    go_wp2
    repeat (go_quiet (fail);try go_wp2)
    go_meet
    case rel => exact ⟨_,(((l0_1.length : Int) != (l1_1.length : Int))),(by rfl),H',⟨by omega⟩,⟨by exact BK288.out⟩,⟨by exact BK289.out⟩,⟨by exact HB.out⟩⟩
   ·rw [if_neg c7] at H;have c7b0 : (a0_2 == a1_2) = false:=beq_eq_false_iff_ne.mpr c7;have c7b1 : (a0_2 != a1_2) = true:=bne_iff_ne.mpr c7;have H':=am_ H;clear H;have hnb11:=NB288_289.out;have hnc11:=NB289_288.out;have hcz12_0:=c3_0 BK288.out;have hcz12_1:=c3_1 BK288.out;have hcz12_2:=c3_2 BK288.out;have hfz12_0:=blk_frozen BK288.out 0;have hfz12_1:=blk_frozen BK288.out 1;have hfz12_2:=blk_frozen BK288.out 2;have hcz13_0:=c3_0 BK289.out;have hcz13_1:=c3_1 BK289.out;have hcz13_2:=c3_2 BK289.out;have hfz13_0:=blk_frozen BK289.out 0;have hfz13_1:=blk_frozen BK289.out 1;have hfz13_2:=blk_frozen BK289.out 2
    go_wp2
    repeat (go_quiet (fail);try go_wp2)
    go_meet
    case rel => exact ⟨_,(true),(by rfl),H',⟨by omega⟩,⟨by exact BK288.out⟩,⟨by exact BK289.out⟩,⟨by exact HB.out⟩⟩
  ·rw [if_neg c6] at H;have c6b0 : (a0_0 == a1_0) = false:=beq_eq_false_iff_ne.mpr c6;have c6b1 : (a0_0 != a1_0) = true:=bne_iff_ne.mpr c6
   (skip)
   have H':=am_ H;clear H;have hnb14:=NB288_289.out;have hnc14:=NB289_288.out;have hcz15_0:=c3_0 BK288.out;have hcz15_1:=c3_1 BK288.out;have hcz15_2:=c3_2 BK288.out;have hfz15_0:=blk_frozen BK288.out 0;have hfz15_1:=blk_frozen BK288.out 1;have hfz15_2:=blk_frozen BK288.out 2;have hcz16_0:=c3_0 BK289.out;have hcz16_1:=c3_1 BK289.out;have hcz16_2:=c3_2 BK289.out;have hfz16_0:=blk_frozen BK289.out 0;have hfz16_1:=blk_frozen BK289.out 1;have hfz16_2:=blk_frozen BK289.out 2
   go_wp2
   repeat (go_quiet (fail);try go_wp2)
   go_meet
   case rel => exact ⟨_,(true),(by rfl),H',⟨by omega⟩,⟨by exact BK288.out⟩,⟨by exact BK289.out⟩,⟨by exact HB.out⟩⟩
 case rest =>
  clear HC3;(try clear c1);(try clear p2);(try clear c6);(try clear c6b0);(try clear c6b1);(try clear c7);(try clear c7b0);(try clear c7b1);(try clear c8);(try clear c9);(try clear c11);(try clear c14);(try clear hcz10_0);(try clear hcz10_1);(try clear hcz10_2);(try clear hcz12_0);(try clear hcz12_1);(try clear hcz12_2);(try clear hcz13_0);(try clear hcz13_1);(try clear hcz13_2);(try clear hcz15_0);(try clear hcz15_1);(try clear hcz15_2);(try clear hcz16_0);(try clear hcz16_1);(try clear hcz16_2);(try clear hcz9_0);(try clear hcz9_1);(try clear hcz9_2);(try clear hfz10_0);(try clear hfz10_1);(try clear hfz10_2);(try clear hfz12_0);(try clear hfz12_1);(try clear hfz12_2);(try clear hfz13_0);(try clear hfz13_1);(try clear hfz13_2);(try clear hfz15_0);(try clear hfz15_1);(try clear hfz15_2);(try clear hfz16_0);(try clear hfz16_1);(try clear hfz16_2);(try clear hfz9_0);(try clear hfz9_1);(try clear hfz9_2);obtain ⟨kq,x26_2,rfl,HA,HJ2,BK288,BK289,HB⟩ := hcut
  cases kq with
  | zero => exact absurd HA.out (by simp [laws_rCharges.j0])
  | succ kj2 =>
   have H:=HA.out;clear HA;simp only [laws_rCharges.j0] at H
   by_cases c17 : x26_2 = true
   ·subst c17
    have H1 : (some false) = some r:=by rw [if_pos rfl] at H;exact H
    clear H;have H:=H1;clear H1;obtain rfl:=Option.some.inj H
    go_wp2
    repeat (go_quiet (fail);try go_wp2)
    go_ret
    exact ⟨by rfl,by exact HB.out⟩
   ·replace c17:=Bool.eq_false_iff.mpr c17;subst c17
    have H1 : (laws_rCharges.l0 kj2 0 a0_0 l0_1 a0_2 a1_0 l1_1 a1_2) = some r:=by rw [if_neg (show ¬ (false = true) by decide)] at H;exact H
    clear H;have H:=H1;clear H1;have H':=am_ H;clear H
    go_wp2
    repeat (go_quiet (fail);try go_wp2)
    (skip)
    go_loopg [5] kj2 (fun kq v5 w' => ∃ (x5_2 : Int),v5 = .int .i64 x5_2 ∧ Aside0 (laws_rCharges.l0 kq x5_2 a0_0 l0_1 a0_2 a1_0 l1_1 a1_2 = some r) ∧ Aside0 (kq ≤ kj2) ∧ Aside0 (w'.heap[gb288]? = some (.cells #[.int .i64 a0_0,(.slice A0_1 l0_1.length c0_1), .int .i64 a0_2] 26 (0,0))) ∧ Aside0 (w'.heap[gb289]? = some (.cells #[.int .i64 a1_0,(.slice A1_1 l1_1.length c1_1), .int .i64 a1_2] 26 (0,0))) ∧ Aside0 (Below w.heap.size w w'))
    case atStart => exact ⟨(0),(by rfl),H',⟨Nat.le_refl _⟩,⟨by exact BK288.out⟩,⟨by exact BK289.out⟩,⟨by exact HB.out⟩⟩
    case round =>
     clear H';(try clear c1);(try clear p2);(try clear c6);(try clear c6b0);(try clear c6b1);(try clear c7);(try clear c7b0);(try clear c7b1);(try clear c8);(try clear c9);(try clear c11);(try clear c14);(try clear c17);(try clear hcz10_0);(try clear hcz10_1);(try clear hcz10_2);(try clear hcz12_0);(try clear hcz12_1);(try clear hcz12_2);(try clear hcz13_0);(try clear hcz13_1);(try clear hcz13_2);(try clear hcz15_0);(try clear hcz15_1);(try clear hcz15_2);(try clear hcz16_0);(try clear hcz16_1);(try clear hcz16_2);(try clear hcz9_0);(try clear hcz9_1);(try clear hcz9_2);(try clear hfz10_0);(try clear hfz10_1);(try clear hfz10_2);(try clear hfz12_0);(try clear hfz12_1);(try clear hfz12_2);(try clear hfz13_0);(try clear hfz13_1);(try clear hfz13_2);(try clear hfz15_0);(try clear hfz15_1);(try clear hfz15_2);(try clear hfz16_0);(try clear hfz16_1);(try clear hfz16_2);(try clear hfz9_0);(try clear hfz9_1);(try clear hfz9_2);(try clear p2);obtain ⟨x5_2,rfl,HA,HK2,BK288,BK289,HB⟩ := hrel
     cases gk with
     | zero => exact absurd HA.out (by simp [laws_rCharges.l0])
     | succ k2 =>
      have H:=HA.out;clear HA;simp only [laws_rCharges.l0] at H
      by_cases c18 : x5_2 < (l0_1.length : Int)
      ·rw [if_pos c18] at H;have c18b0 : decide (x5_2 < (l0_1.length : Int)) = true:=decide_eq_true c18;clear c18
       by_cases c19 : 0 ≤ x5_2
       ·rw [if_pos c19] at H;have c19b0 : decide (0 ≤ x5_2) = true:=decide_eq_true c19;clear c19
        by_cases c20 : x5_2 < (l1_1.length : Int)
        ·rw [if_pos c20] at H;have c20b0 : decide (x5_2 < (l1_1.length : Int)) = true:=decide_eq_true c20;clear c20
         by_cases c21 : (!(((rd_T45 l0_1 x5_2).f0) == ((rd_T45 l1_1 x5_2).f0)) || (!(((rd_T45 l0_1 x5_2).f1) == ((rd_T45 l1_1 x5_2).f1)))) = true
         ·rw [if_pos c21] at H;have c21b0 : (!(((rd_T45 l0_1 x5_2).f0) == ((rd_T45 l1_1 x5_2).f0)) || (!(((rd_T45 l0_1 x5_2).f1) == ((rd_T45 l1_1 x5_2).f1)))) = true:=c21;clear c21;obtain rfl:=Option.some.inj H;have hnb22:=NB288_289.out;have hnc22:=NB289_288.out;have hcz23_0:=c3_0 BK288.out;have hcz23_1:=c3_1 BK288.out;have hcz23_2:=c3_2 BK288.out;have hfz23_0:=blk_frozen BK288.out 0;have hfz23_1:=blk_frozen BK288.out 1;have hfz23_2:=blk_frozen BK288.out 2;have p290 : 0 ≤ (x5_2 : Int):=of_decide_eq_true (by (with_reducible assumption));have q290 : x5_2 < (l0_1.length : Int):=of_decide_eq_true (by (with_reducible assumption));obtain ⟨ad290,e290,hx290_0,hx290_1⟩ := at_T45 HR0_1.out x5_2 p290 q290;cases e290;replace hx290_0:=(HB.out.cell (World.block_lt_of_cell? w _ hx290_0)).trans hx290_0;replace hx290_1:=(HB.out.cell (World.block_lt_of_cell? w _ hx290_1)).trans hx290_1;replace p290:=eq_true p290;replace q290:=eq_true q290;have hcz24_0:=c3_0 BK289.out;have hcz24_1:=c3_1 BK289.out;have hcz24_2:=c3_2 BK289.out;have hfz24_0:=blk_frozen BK289.out 0;have hfz24_1:=blk_frozen BK289.out 1;have hfz24_2:=blk_frozen BK289.out 2;have p291 : 0 ≤ (x5_2 : Int):=of_decide_eq_true (by (with_reducible assumption));have q291 : x5_2 < (l1_1.length : Int):=of_decide_eq_true (by (with_reducible assumption));obtain ⟨ad291,e291,hx291_0,hx291_1⟩ := at_T45 HR1_1.out x5_2 p291 q291;cases e291;replace hx291_0:=(HB.out.cell (World.block_lt_of_cell? w _ hx291_0)).trans hx291_0;replace hx291_1:=(HB.out.cell (World.block_lt_of_cell? w _ hx291_1)).trans hx291_1;replace p291:=eq_true p291;replace q291:=eq_true q291
          go_wp2
          repeat (go_quiet (fail);try go_wp2)
          go_ret
          exact ⟨by rfl,by repeat ((with_reducible first | exact HB.out | apply pw_below_drewN))⟩
         ·rw [if_neg c21] at H
          have c21b0 : (!(((rd_T45 l0_1 x5_2).f0) == ((rd_T45 l1_1 x5_2).f0)) || (!(((rd_T45 l0_1 x5_2).f1) == ((rd_T45 l1_1 x5_2).f1)))) = false:=by simpa using c21
          clear c21;have H':=am_ H;clear H;have hnb25:=NB288_289.out;have hnc25:=NB289_288.out;have hcz26_0:=c3_0 BK288.out;have hcz26_1:=c3_1 BK288.out;have hcz26_2:=c3_2 BK288.out;have hfz26_0:=blk_frozen BK288.out 0;have hfz26_1:=blk_frozen BK288.out 1;have hfz26_2:=blk_frozen BK288.out 2;have p290 : 0 ≤ (x5_2 : Int):=of_decide_eq_true (by (with_reducible assumption));have q290 : x5_2 < (l0_1.length : Int):=of_decide_eq_true (by (with_reducible assumption));obtain ⟨ad290,e290,hx290_0,hx290_1⟩ := at_T45 HR0_1.out x5_2 p290 q290;cases e290;replace hx290_0:=(HB.out.cell (World.block_lt_of_cell? w _ hx290_0)).trans hx290_0;replace hx290_1:=(HB.out.cell (World.block_lt_of_cell? w _ hx290_1)).trans hx290_1;replace p290:=eq_true p290;replace q290:=eq_true q290;have hcz27_0:=c3_0 BK289.out;have hcz27_1:=c3_1 BK289.out;have hcz27_2:=c3_2 BK289.out;have hfz27_0:=blk_frozen BK289.out 0;have hfz27_1:=blk_frozen BK289.out 1;have hfz27_2:=blk_frozen BK289.out 2;have p291 : 0 ≤ (x5_2 : Int):=of_decide_eq_true (by (with_reducible assumption));have q291 : x5_2 < (l1_1.length : Int):=of_decide_eq_true (by (with_reducible assumption));obtain ⟨ad291,e291,hx291_0,hx291_1⟩ := at_T45 HR1_1.out x5_2 p291 q291;cases e291;replace hx291_0:=(HB.out.cell (World.block_lt_of_cell? w _ hx291_0)).trans hx291_0;replace hx291_1:=(HB.out.cell (World.block_lt_of_cell? w _ hx291_1)).trans hx291_1;replace p291:=eq_true p291;replace q291:=eq_true q291
          go_wp2
          repeat (go_quiet (fail);try go_wp2)
          go_roundg k2
          case measure => have:=HJ2.out;have:=HK2.out;omega
          case rel => exact ⟨(wrap64 (x5_2 + 1)),(by rfl),H',⟨by have:=HJ2.out;have:=HK2.out;omega⟩,⟨by (with_reducible repeat (refine blk_drewN ?_ _));exact BK288.out⟩,⟨by (with_reducible repeat (refine blk_drewN ?_ _));exact BK289.out⟩,⟨by repeat ((with_reducible first | exact HB.out | apply pw_below_drewN))⟩⟩
        ·rw [if_neg c20] at H
         exact absurd H (by simp)
       ·rw [if_neg c19] at H
        exact absurd H (by simp)
      ·rw [if_neg c18] at H;have c18b0 : decide (x5_2 < (l0_1.length : Int)) = false:=decide_eq_false c18;clear c18;obtain rfl:=Option.some.inj H;have hnb28:=NB288_289.out;have hnc28:=NB289_288.out;have hcz29_0:=c3_0 BK288.out;have hcz29_1:=c3_1 BK288.out;have hcz29_2:=c3_2 BK288.out;have hfz29_0:=blk_frozen BK288.out 0;have hfz29_1:=blk_frozen BK288.out 1;have hfz29_2:=blk_frozen BK288.out 2
       go_wp2
       repeat (go_quiet (fail);try go_wp2)
       go_ret
       exact ⟨by rfl,by exact HB.out⟩

/-! ### spec_l1Cur_one: function 29 -/
def spec_l1Cur_one.f (s0_0 : List Int) (s0_1 : Int) (s0_2 : Int) (a1 : Int) : Option (Bool × Int × Int):=(spec_l1Cur_pick.f s0_0 s0_1 s0_2 a1).bind fun bt292 => (some ((bt292.1 == 0),bt292.2.1,bt292.2.2))
set_option maxHeartbeats 8000000 in
set_option maxRecDepth 100000 in
theorem spec_l1Cur_one.calls (g : Nat) (s0_0 : List Int) (s0_1 : Int) (s0_2 : Int) (a1 : Int) (r1 : Bool) (r2 : Int) (r3 : Int) (w0 w : World) (hI : IsS55 w0 w g s0_0 s0_1 s0_2) (hB : Below w0.heap.size w0 w) (h : spec_l1Cur_one.f s0_0 s0_1 s0_2 a1 = some (r1,r2,r3)) :
  Calls Tryz.prog 29 #[.pointer (some ⟨g,0,none⟩), .int .i64 a1] w fun e w' => e = .returned (.bool r1) ∧ IsS55 w0 w' g s0_0 r2 r3 ∧ Below w0.heap.size w0 w' ∧ KeepBut w w' g none:=by
 have HI0:=am_ hI;have HK:=am_ (KeepBut.refl w g none);have HL:=am_ hB.size;clear hI;have HW0:=am_ hB.size;have HB:=am_ hB;clear hB;have H : ((spec_l1Cur_pick.f s0_0 s0_1 s0_2 a1).bind fun bt292 => (some ((bt292.1 == 0),bt292.2.1,bt292.2.2))) = some (r1,r2,r3):=h;clear h;replace H:=Option.bind_eq_some_iff.mp H;obtain ⟨⟨t292,t293,t294⟩,A30,H⟩ := H;replace H : (some ((t292 == 0),t293,t294)) = some (r1,r2,r3):=H;have A3:=am_ A30;clear A30;simp only [Option.some.injEq,Prod.mk.injEq] at H;obtain ⟨rfl,rfl,rfl⟩ := H
 go_enter Tryz.func29,Tryz.ntmps29
 go_wp2_with (((with_reducible refine gate_callee (f:=53) rfl ?_);refine goesL_ (some 7) rfl rfl Tryz.func53 (by kernel_rfl) rfl #[.pointer (some ⟨g,0,none⟩), .int .i64 a1] rfl (by (try simp only [List.map_toArray,List.map_cons,List.map_nil]);rfl) ?_;(with_reducible refine (spec_l1Cur_pick.calls g s0_0 s0_1 s0_2 a1 t292 t293 t294 w0 _ ?side1 ?side2 A3.out).mono ?_);(case side1 => exact HI0.out);(case side2 => exact HB.out);rintro e w4 ⟨rfl,hi,hb,hk⟩;refine ⟨_,rfl, ?_⟩;have n0_:=am_ (KeepBut.trans (by exact HK.out) hk (.inl rfl));have n1_:=am_ hb;have n2_:=am_ hi;clear HK;clear HB;clear HI0;have HK:=n0_;have HB:=n1_;have HI0:=n2_;clear n0_ n1_ n2_;(try clear hb);(try clear hk);(try clear hi)))
 go_ret
 exact ⟨by rfl,by exact HI0.out,by exact HB.out,by exact HK.out⟩

/-! ### spec_l1Cur_spoilt: function 30 -/
def spec_l1Cur_spoilt.f (s0_0 : List Int) (s0_1 : Int) (s0_2 : Int) (a1 : ByteArray) (a2 : ByteArray) : Option (ByteArray × Int × Int):=if a1.toList = ([] : List UInt8) then (if 0 ≤ 1 then (if 1 ≤ (a2.size : Int) then (some (a2.extract 0 1,s0_1,s0_2)) else (none)) else (none)) else ((spec_l1Cur_pick.f s0_0 s0_1 s0_2 (a1.size : Int)).bind fun bt295 => ((spec_l1Cur_pick.f s0_0 bt295.2.1 bt295.2.2 (a2.size : Int)).bind fun bt298 => (if 0 ≤ bt298.1 then (if bt298.1 ≤ (a2.size : Int) then (if 0 ≤ 1 then (if 1 ≤ ((a2.extract (bt298.1 : Int).toNat a2.size).size : Int) then ((spec_l1Cur_pick.f s0_0 bt298.2.1 bt298.2.2 3).bind fun bt301 => (if bt301.1 = 0 then (if 0 ≤ bt295.1 then (if bt295.1 ≤ (a1.size : Int) then (if (a1.extract 0 (bt295.1 : Int).toNat).size + ((a2.extract (bt298.1 : Int).toNat a2.size).extract 0 1).size ≤ 9223372036854775807 then (if ((a1.extract 0 (bt295.1 : Int).toNat) ++ ((a2.extract (bt298.1 : Int).toNat a2.size).extract 0 1)).size + (a1.extract (bt295.1 : Int).toNat a1.size).size ≤ 9223372036854775807 then (some (((a1.extract 0 (bt295.1 : Int).toNat) ++ ((a2.extract (bt298.1 : Int).toNat a2.size).extract 0 1)) ++ (a1.extract (bt295.1 : Int).toNat a1.size),bt301.2.1,bt301.2.2)) else (none)) else (none)) else (none)) else (none)) else (if bt301.1 = 1 then (if 0 ≤ bt295.1 then (if bt295.1 ≤ (a1.size : Int) then (if (a1.extract 0 (bt295.1 : Int).toNat).size + ((a2.extract (bt298.1 : Int).toNat a2.size).extract 0 1).size ≤ 9223372036854775807 then (if 0 ≤ (wrap64 (bt295.1 + 1)) then (if (wrap64 (bt295.1 + 1)) ≤ (a1.size : Int) then (if ((a1.extract 0 (bt295.1 : Int).toNat) ++ ((a2.extract (bt298.1 : Int).toNat a2.size).extract 0 1)).size + (a1.extract ((wrap64 (bt295.1 + 1)) : Int).toNat a1.size).size ≤ 9223372036854775807 then (some (((a1.extract 0 (bt295.1 : Int).toNat) ++ ((a2.extract (bt298.1 : Int).toNat a2.size).extract 0 1)) ++ (a1.extract ((wrap64 (bt295.1 + 1)) : Int).toNat a1.size),bt301.2.1,bt301.2.2)) else (none)) else (none)) else (none)) else (none)) else (none)) else (none)) else (if 0 ≤ bt295.1 then (if bt295.1 ≤ (a1.size : Int) then (if 0 ≤ (wrap64 (bt295.1 + 1)) then (if (wrap64 (bt295.1 + 1)) ≤ (a1.size : Int) then (if (a1.extract 0 (bt295.1 : Int).toNat).size + (a1.extract ((wrap64 (bt295.1 + 1)) : Int).toNat a1.size).size ≤ 9223372036854775807 then (some ((a1.extract 0 (bt295.1 : Int).toNat) ++ (a1.extract ((wrap64 (bt295.1 + 1)) : Int).toNat a1.size),bt301.2.1,bt301.2.2)) else (none)) else (none)) else (none)) else (none)) else (none))))) else (none)) else (none)) else (none)) else (none))))
set_option maxHeartbeats 8000000 in
set_option maxRecDepth 100000 in
theorem spec_l1Cur_spoilt.calls (g : Nat) (s0_0 : List Int) (s0_1 : Int) (s0_2 : Int) (a1 : ByteArray) (a2 : ByteArray) (r1 : ByteArray) (r2 : Int) (r3 : Int) (w0 w : World) (hI : IsS55 w0 w g s0_0 s0_1 s0_2) (hB : Below w0.heap.size w0 w) (h : spec_l1Cur_spoilt.f s0_0 s0_1 s0_2 a1 a2 = some (r1,r2,r3)) :
  Calls Tryz.prog 30 #[.pointer (some ⟨g,0,none⟩), .string a1, .string a2] w fun e w' => e = .returned (.string r1) ∧ IsS55 w0 w' g s0_0 r2 r3 ∧ Below w0.heap.size w0 w' ∧ KeepBut w w' g none:=by
 have HI0:=am_ hI;have HK:=am_ (KeepBut.refl w g none);have HL:=am_ hB.size;clear hI;have HW0:=am_ hB.size;have HB:=am_ hB;clear hB;have H : (if a1.toList = ([] : List UInt8) then (if 0 ≤ 1 then (if 1 ≤ (a2.size : Int) then (some (a2.extract 0 1,s0_1,s0_2)) else (none)) else (none)) else ((spec_l1Cur_pick.f s0_0 s0_1 s0_2 (a1.size : Int)).bind fun bt295 => ((spec_l1Cur_pick.f s0_0 bt295.2.1 bt295.2.2 (a2.size : Int)).bind fun bt298 => (if 0 ≤ bt298.1 then (if bt298.1 ≤ (a2.size : Int) then (if 0 ≤ 1 then (if 1 ≤ ((a2.extract (bt298.1 : Int).toNat a2.size).size : Int) then ((spec_l1Cur_pick.f s0_0 bt298.2.1 bt298.2.2 3).bind fun bt301 => (if bt301.1 = 0 then (if 0 ≤ bt295.1 then (if bt295.1 ≤ (a1.size : Int) then (if (a1.extract 0 (bt295.1 : Int).toNat).size + ((a2.extract (bt298.1 : Int).toNat a2.size).extract 0 1).size ≤ 9223372036854775807 then (if ((a1.extract 0 (bt295.1 : Int).toNat) ++ ((a2.extract (bt298.1 : Int).toNat a2.size).extract 0 1)).size + (a1.extract (bt295.1 : Int).toNat a1.size).size ≤ 9223372036854775807 then (some (((a1.extract 0 (bt295.1 : Int).toNat) ++ ((a2.extract (bt298.1 : Int).toNat a2.size).extract 0 1)) ++ (a1.extract (bt295.1 : Int).toNat a1.size),bt301.2.1,bt301.2.2)) else (none)) else (none)) else (none)) else (none)) else (if bt301.1 = 1 then (if 0 ≤ bt295.1 then (if bt295.1 ≤ (a1.size : Int) then (if (a1.extract 0 (bt295.1 : Int).toNat).size + ((a2.extract (bt298.1 : Int).toNat a2.size).extract 0 1).size ≤ 9223372036854775807 then (if 0 ≤ (wrap64 (bt295.1 + 1)) then (if (wrap64 (bt295.1 + 1)) ≤ (a1.size : Int) then (if ((a1.extract 0 (bt295.1 : Int).toNat) ++ ((a2.extract (bt298.1 : Int).toNat a2.size).extract 0 1)).size + (a1.extract ((wrap64 (bt295.1 + 1)) : Int).toNat a1.size).size ≤ 9223372036854775807 then (some (((a1.extract 0 (bt295.1 : Int).toNat) ++ ((a2.extract (bt298.1 : Int).toNat a2.size).extract 0 1)) ++ (a1.extract ((wrap64 (bt295.1 + 1)) : Int).toNat a1.size),bt301.2.1,bt301.2.2)) else (none)) else (none)) else (none)) else (none)) else (none)) else (none)) else (if 0 ≤ bt295.1 then (if bt295.1 ≤ (a1.size : Int) then (if 0 ≤ (wrap64 (bt295.1 + 1)) then (if (wrap64 (bt295.1 + 1)) ≤ (a1.size : Int) then (if (a1.extract 0 (bt295.1 : Int).toNat).size + (a1.extract ((wrap64 (bt295.1 + 1)) : Int).toNat a1.size).size ≤ 9223372036854775807 then (some ((a1.extract 0 (bt295.1 : Int).toNat) ++ (a1.extract ((wrap64 (bt295.1 + 1)) : Int).toNat a1.size),bt301.2.1,bt301.2.2)) else (none)) else (none)) else (none)) else (none)) else (none))))) else (none)) else (none)) else (none)) else (none))))) = some (r1,r2,r3):=h;clear h
 by_cases c4 : a1.toList = ([] : List UInt8)
 ·rw [if_pos c4] at H;have c4b0 : (a1.toList == ([] : List UInt8)) = true:=beq_iff_eq.mpr c4;have c4b1 : (a1.toList != ([] : List UInt8)) = false:=bne_eq_false_iff_eq.mpr c4;clear c4
  by_cases c5 : 0 ≤ 1
  ·rw [if_pos c5] at H;have c5b0:=eq_true c5;have c5b1 : decide (0 ≤ 1) = true:=decide_eq_true c5;clear c5
   by_cases c6 : 1 ≤ (a2.size : Int)
   ·rw [if_pos c6] at H;have c6b0:=eq_true c6;have c6b1 : decide (1 ≤ (a2.size : Int)) = true:=decide_eq_true c6;clear c6;simp only [Option.some.injEq,Prod.mk.injEq] at H;obtain ⟨rfl,rfl,rfl⟩ := H
    go_enter Tryz.func30,Tryz.ntmps30
    go_wp2
    repeat (go_quiet (fail);try go_wp2)
    go_ret
    exact ⟨by rfl,by exact HI0.out,by exact HB.out,by exact HK.out⟩
   ·rw [if_neg c6] at H
    exact absurd H (by simp)
  ·rw [if_neg c5] at H
   exact absurd H (by simp)
 ·rw [if_neg c4] at H;have c4b0 : (a1.toList == ([] : List UInt8)) = false:=beq_eq_false_iff_ne.mpr c4;have c4b1 : (a1.toList != ([] : List UInt8)) = true:=bne_iff_ne.mpr c4;replace H:=Option.bind_eq_some_iff.mp H;obtain ⟨⟨t295,t296,t297⟩,A70,H⟩ := H;replace H : ((spec_l1Cur_pick.f s0_0 t296 t297 (a2.size : Int)).bind fun bt298 => (if 0 ≤ bt298.1 then (if bt298.1 ≤ (a2.size : Int) then (if 0 ≤ 1 then (if 1 ≤ ((a2.extract (bt298.1 : Int).toNat a2.size).size : Int) then ((spec_l1Cur_pick.f s0_0 bt298.2.1 bt298.2.2 3).bind fun bt301 => (if bt301.1 = 0 then (if 0 ≤ t295 then (if t295 ≤ (a1.size : Int) then (if (a1.extract 0 (t295 : Int).toNat).size + ((a2.extract (bt298.1 : Int).toNat a2.size).extract 0 1).size ≤ 9223372036854775807 then (if ((a1.extract 0 (t295 : Int).toNat) ++ ((a2.extract (bt298.1 : Int).toNat a2.size).extract 0 1)).size + (a1.extract (t295 : Int).toNat a1.size).size ≤ 9223372036854775807 then (some (((a1.extract 0 (t295 : Int).toNat) ++ ((a2.extract (bt298.1 : Int).toNat a2.size).extract 0 1)) ++ (a1.extract (t295 : Int).toNat a1.size),bt301.2.1,bt301.2.2)) else (none)) else (none)) else (none)) else (none)) else (if bt301.1 = 1 then (if 0 ≤ t295 then (if t295 ≤ (a1.size : Int) then (if (a1.extract 0 (t295 : Int).toNat).size + ((a2.extract (bt298.1 : Int).toNat a2.size).extract 0 1).size ≤ 9223372036854775807 then (if 0 ≤ (wrap64 (t295 + 1)) then (if (wrap64 (t295 + 1)) ≤ (a1.size : Int) then (if ((a1.extract 0 (t295 : Int).toNat) ++ ((a2.extract (bt298.1 : Int).toNat a2.size).extract 0 1)).size + (a1.extract ((wrap64 (t295 + 1)) : Int).toNat a1.size).size ≤ 9223372036854775807 then (some (((a1.extract 0 (t295 : Int).toNat) ++ ((a2.extract (bt298.1 : Int).toNat a2.size).extract 0 1)) ++ (a1.extract ((wrap64 (t295 + 1)) : Int).toNat a1.size),bt301.2.1,bt301.2.2)) else (none)) else (none)) else (none)) else (none)) else (none)) else (none)) else (if 0 ≤ t295 then (if t295 ≤ (a1.size : Int) then (if 0 ≤ (wrap64 (t295 + 1)) then (if (wrap64 (t295 + 1)) ≤ (a1.size : Int) then (if (a1.extract 0 (t295 : Int).toNat).size + (a1.extract ((wrap64 (t295 + 1)) : Int).toNat a1.size).size ≤ 9223372036854775807 then (some ((a1.extract 0 (t295 : Int).toNat) ++ (a1.extract ((wrap64 (t295 + 1)) : Int).toNat a1.size),bt301.2.1,bt301.2.2)) else (none)) else (none)) else (none)) else (none)) else (none))))) else (none)) else (none)) else (none)) else (none))) = some (r1,r2,r3):=H;have A7:=am_ A70;clear A70;replace H:=Option.bind_eq_some_iff.mp H;obtain ⟨⟨t298,t299,t300⟩,A80,H⟩ := H;replace H : (if 0 ≤ t298 then (if t298 ≤ (a2.size : Int) then (if 0 ≤ 1 then (if 1 ≤ ((a2.extract (t298 : Int).toNat a2.size).size : Int) then ((spec_l1Cur_pick.f s0_0 t299 t300 3).bind fun bt301 => (if bt301.1 = 0 then (if 0 ≤ t295 then (if t295 ≤ (a1.size : Int) then (if (a1.extract 0 (t295 : Int).toNat).size + ((a2.extract (t298 : Int).toNat a2.size).extract 0 1).size ≤ 9223372036854775807 then (if ((a1.extract 0 (t295 : Int).toNat) ++ ((a2.extract (t298 : Int).toNat a2.size).extract 0 1)).size + (a1.extract (t295 : Int).toNat a1.size).size ≤ 9223372036854775807 then (some (((a1.extract 0 (t295 : Int).toNat) ++ ((a2.extract (t298 : Int).toNat a2.size).extract 0 1)) ++ (a1.extract (t295 : Int).toNat a1.size),bt301.2.1,bt301.2.2)) else (none)) else (none)) else (none)) else (none)) else (if bt301.1 = 1 then (if 0 ≤ t295 then (if t295 ≤ (a1.size : Int) then (if (a1.extract 0 (t295 : Int).toNat).size + ((a2.extract (t298 : Int).toNat a2.size).extract 0 1).size ≤ 9223372036854775807 then (if 0 ≤ (wrap64 (t295 + 1)) then (if (wrap64 (t295 + 1)) ≤ (a1.size : Int) then (if ((a1.extract 0 (t295 : Int).toNat) ++ ((a2.extract (t298 : Int).toNat a2.size).extract 0 1)).size + (a1.extract ((wrap64 (t295 + 1)) : Int).toNat a1.size).size ≤ 9223372036854775807 then (some (((a1.extract 0 (t295 : Int).toNat) ++ ((a2.extract (t298 : Int).toNat a2.size).extract 0 1)) ++ (a1.extract ((wrap64 (t295 + 1)) : Int).toNat a1.size),bt301.2.1,bt301.2.2)) else (none)) else (none)) else (none)) else (none)) else (none)) else (none)) else (if 0 ≤ t295 then (if t295 ≤ (a1.size : Int) then (if 0 ≤ (wrap64 (t295 + 1)) then (if (wrap64 (t295 + 1)) ≤ (a1.size : Int) then (if (a1.extract 0 (t295 : Int).toNat).size + (a1.extract ((wrap64 (t295 + 1)) : Int).toNat a1.size).size ≤ 9223372036854775807 then (some ((a1.extract 0 (t295 : Int).toNat) ++ (a1.extract ((wrap64 (t295 + 1)) : Int).toNat a1.size),bt301.2.1,bt301.2.2)) else (none)) else (none)) else (none)) else (none)) else (none))))) else (none)) else (none)) else (none)) else (none)) = some (r1,r2,r3):=H;have A8:=am_ A80;clear A80
  by_cases c9 : 0 ≤ t298
  ·rw [if_pos c9] at H;have c9b0:=eq_true c9;have c9b1 : decide (0 ≤ t298) = true:=decide_eq_true c9;clear c9
   by_cases c10 : t298 ≤ (a2.size : Int)
   ·rw [if_pos c10] at H;have c10b0:=eq_true c10;have c10b1 : decide (t298 ≤ (a2.size : Int)) = true:=decide_eq_true c10;clear c10
    by_cases c11 : 0 ≤ 1
    ·rw [if_pos c11] at H;have c11b0:=eq_true c11;have c11b1 : decide (0 ≤ 1) = true:=decide_eq_true c11;clear c11
     by_cases c12 : 1 ≤ ((a2.extract (t298 : Int).toNat a2.size).size : Int)
     ·rw [if_pos c12] at H;have c12b0:=eq_true c12
      try have c12b9 : (1 ≤ ((a2.size - (t298 : Int).toNat : Nat) : Int)) = True:=by have h_:=c12b0;rw [ByteArray.size_extract,Nat.min_self] at h_;exact h_
      have c12b1 : decide (1 ≤ ((a2.extract (t298 : Int).toNat a2.size).size : Int)) = true:=decide_eq_true c12;clear c12;replace H:=Option.bind_eq_some_iff.mp H;obtain ⟨⟨t301,t302,t303⟩,A130,H⟩ := H;replace H : (if t301 = 0 then (if 0 ≤ t295 then (if t295 ≤ (a1.size : Int) then (if (a1.extract 0 (t295 : Int).toNat).size + ((a2.extract (t298 : Int).toNat a2.size).extract 0 1).size ≤ 9223372036854775807 then (if ((a1.extract 0 (t295 : Int).toNat) ++ ((a2.extract (t298 : Int).toNat a2.size).extract 0 1)).size + (a1.extract (t295 : Int).toNat a1.size).size ≤ 9223372036854775807 then (some (((a1.extract 0 (t295 : Int).toNat) ++ ((a2.extract (t298 : Int).toNat a2.size).extract 0 1)) ++ (a1.extract (t295 : Int).toNat a1.size),t302,t303)) else (none)) else (none)) else (none)) else (none)) else (if t301 = 1 then (if 0 ≤ t295 then (if t295 ≤ (a1.size : Int) then (if (a1.extract 0 (t295 : Int).toNat).size + ((a2.extract (t298 : Int).toNat a2.size).extract 0 1).size ≤ 9223372036854775807 then (if 0 ≤ (wrap64 (t295 + 1)) then (if (wrap64 (t295 + 1)) ≤ (a1.size : Int) then (if ((a1.extract 0 (t295 : Int).toNat) ++ ((a2.extract (t298 : Int).toNat a2.size).extract 0 1)).size + (a1.extract ((wrap64 (t295 + 1)) : Int).toNat a1.size).size ≤ 9223372036854775807 then (some (((a1.extract 0 (t295 : Int).toNat) ++ ((a2.extract (t298 : Int).toNat a2.size).extract 0 1)) ++ (a1.extract ((wrap64 (t295 + 1)) : Int).toNat a1.size),t302,t303)) else (none)) else (none)) else (none)) else (none)) else (none)) else (none)) else (if 0 ≤ t295 then (if t295 ≤ (a1.size : Int) then (if 0 ≤ (wrap64 (t295 + 1)) then (if (wrap64 (t295 + 1)) ≤ (a1.size : Int) then (if (a1.extract 0 (t295 : Int).toNat).size + (a1.extract ((wrap64 (t295 + 1)) : Int).toNat a1.size).size ≤ 9223372036854775807 then (some ((a1.extract 0 (t295 : Int).toNat) ++ (a1.extract ((wrap64 (t295 + 1)) : Int).toNat a1.size),t302,t303)) else (none)) else (none)) else (none)) else (none)) else (none)))) = some (r1,r2,r3):=H;have A13:=am_ A130;clear A130
      by_cases c14 : t301 = 0
      ·rw [if_pos c14] at H;have c14b0 : (t301 == 0) = true:=beq_iff_eq.mpr c14;have c14b1 : (t301 != 0) = false:=bne_eq_false_iff_eq.mpr c14;clear c14
       by_cases c15 : 0 ≤ t295
       ·rw [if_pos c15] at H;have c15b0:=eq_true c15;have c15b1 : decide (0 ≤ t295) = true:=decide_eq_true c15;clear c15
        by_cases c16 : t295 ≤ (a1.size : Int)
        ·rw [if_pos c16] at H;have c16b0:=eq_true c16;have c16b1 : decide (t295 ≤ (a1.size : Int)) = true:=decide_eq_true c16;clear c16
         by_cases c17 : (a1.extract 0 (t295 : Int).toNat).size + ((a2.extract (t298 : Int).toNat a2.size).extract 0 1).size ≤ 9223372036854775807
         ·rw [if_pos c17] at H;have c17b0:=eq_true c17;have c17b1 : decide ((a1.extract 0 (t295 : Int).toNat).size + ((a2.extract (t298 : Int).toNat a2.size).extract 0 1).size ≤ 9223372036854775807) = true:=decide_eq_true c17
          try have c17b2 : (9223372036854775807 < (a1.extract 0 (t295 : Int).toNat).size + ((a2.extract (t298 : Int).toNat a2.size).extract 0 1).size) = False:=eq_false (Nat.not_lt.2 c17)
          have c18b0:=eq_true (of_decide_eq_true (by (with_reducible assumption)) : 0 ≤ t295);have c19b0:=eq_true (of_decide_eq_true (by (with_reducible assumption)) : t295 ≤ (a1.size : Int))
          by_cases c20 : ((a1.extract 0 (t295 : Int).toNat) ++ ((a2.extract (t298 : Int).toNat a2.size).extract 0 1)).size + (a1.extract (t295 : Int).toNat a1.size).size ≤ 9223372036854775807
          ·rw [if_pos c20] at H;have c20b0:=eq_true c20;have c20b1 : decide (((a1.extract 0 (t295 : Int).toNat) ++ ((a2.extract (t298 : Int).toNat a2.size).extract 0 1)).size + (a1.extract (t295 : Int).toNat a1.size).size ≤ 9223372036854775807) = true:=decide_eq_true c20
           try have c20b2 : (9223372036854775807 < ((a1.extract 0 (t295 : Int).toNat) ++ ((a2.extract (t298 : Int).toNat a2.size).extract 0 1)).size + (a1.extract (t295 : Int).toNat a1.size).size) = False:=eq_false (Nat.not_lt.2 c20)
           simp only [Option.some.injEq,Prod.mk.injEq] at H;obtain ⟨rfl,rfl,rfl⟩ := H
           go_enter Tryz.func30,Tryz.ntmps30
           go_wp2_with (first | (go_at_call 53;(with_reducible refine (spec_l1Cur_pick.calls g s0_0 s0_1 s0_2 (a1.size : Int) t295 t296 t297 w0 _ ?side1 ?side2 A7.out).mono ?_);(case side1 => exact HI0.out);(case side2 => exact HB.out);rintro e w21 ⟨rfl,hi,hb,hk⟩;have n0_:=am_ (KeepBut.trans (by exact HK.out) hk (.inl rfl));have n1_:=am_ hb;have n2_:=am_ hi;clear HK;clear HB;clear HI0;have HK:=n0_;have HB:=n1_;have HI0:=n2_;clear n0_ n1_ n2_;(try clear hb);(try clear hk);(try clear hi)) | (go_at_call 53;(with_reducible refine (spec_l1Cur_pick.calls g s0_0 t296 t297 (a2.size : Int) t298 t299 t300 w0 _ ?side1 ?side2 A8.out).mono ?_);(case side1 => exact HI0.out);(case side2 => exact HB.out);rintro e w22 ⟨rfl,hi,hb,hk⟩;have n0_:=am_ (KeepBut.trans (by exact HK.out) hk (.inl rfl));have n1_:=am_ hb;have n2_:=am_ hi;clear HK;clear HB;clear HI0;have HK:=n0_;have HB:=n1_;have HI0:=n2_;clear n0_ n1_ n2_;(try clear hb);(try clear hk);(try clear hi)) | (go_at_call 53;(with_reducible refine (spec_l1Cur_pick.calls g s0_0 t299 t300 3 t301 t302 t303 w0 _ ?side1 ?side2 A13.out).mono ?_);(case side1 => exact HI0.out);(case side2 => exact HB.out);rintro e w23 ⟨rfl,hi,hb,hk⟩;have n0_:=am_ (KeepBut.trans (by exact HK.out) hk (.inl rfl));have n1_:=am_ hb;have n2_:=am_ hi;clear HK;clear HB;clear HI0;have HK:=n0_;have HB:=n1_;have HI0:=n2_;clear n0_ n1_ n2_;(try clear hb);(try clear hk);(try clear hi)))
           repeat (go_quiet (fail);try go_wp2_with (fail))
           go_ret
           exact ⟨by rfl,by repeat ((with_reducible first | exact HI0.out | apply IsS55.drewN)),by repeat ((with_reducible first | exact HB.out | apply pw_below_drewN)),by repeat ((with_reducible first | exact HK.out | apply keep_drewN))⟩
          ·rw [if_neg c20] at H
           exact absurd H (by simp)
         ·rw [if_neg c17] at H
          exact absurd H (by simp)
        ·rw [if_neg c16] at H
         exact absurd H (by simp)
       ·rw [if_neg c15] at H
        exact absurd H (by simp)
      ·rw [if_neg c14] at H;have c14b0 : (t301 == 0) = false:=beq_eq_false_iff_ne.mpr c14;have c14b1 : (t301 != 0) = true:=bne_iff_ne.mpr c14
       by_cases c24 : t301 = 1
       ·rw [if_pos c24] at H;have c24b0 : (t301 == 1) = true:=beq_iff_eq.mpr c24;have c24b1 : (t301 != 1) = false:=bne_eq_false_iff_eq.mpr c24;clear c24
        by_cases c25 : 0 ≤ t295
        ·rw [if_pos c25] at H;have c25b0:=eq_true c25;have c25b1 : decide (0 ≤ t295) = true:=decide_eq_true c25;clear c25
         by_cases c26 : t295 ≤ (a1.size : Int)
         ·rw [if_pos c26] at H;have c26b0:=eq_true c26;have c26b1 : decide (t295 ≤ (a1.size : Int)) = true:=decide_eq_true c26;clear c26
          by_cases c27 : (a1.extract 0 (t295 : Int).toNat).size + ((a2.extract (t298 : Int).toNat a2.size).extract 0 1).size ≤ 9223372036854775807
          ·rw [if_pos c27] at H;have c27b0:=eq_true c27;have c27b1 : decide ((a1.extract 0 (t295 : Int).toNat).size + ((a2.extract (t298 : Int).toNat a2.size).extract 0 1).size ≤ 9223372036854775807) = true:=decide_eq_true c27
           try have c27b2 : (9223372036854775807 < (a1.extract 0 (t295 : Int).toNat).size + ((a2.extract (t298 : Int).toNat a2.size).extract 0 1).size) = False:=eq_false (Nat.not_lt.2 c27)
           obtain ⟨ji28,hji28⟩ : ∃ j_ : Int,(wrap64 (t295 + 1)) = j_:=⟨_,rfl⟩
           replace H : (if 0 ≤ (ji28) then (if (ji28) ≤ (a1.size : Int) then (if ((a1.extract 0 (t295 : Int).toNat) ++ ((a2.extract (t298 : Int).toNat a2.size).extract 0 1)).size + (a1.extract ((ji28) : Int).toNat a1.size).size ≤ 9223372036854775807 then (some (((a1.extract 0 (t295 : Int).toNat) ++ ((a2.extract (t298 : Int).toNat a2.size).extract 0 1)) ++ (a1.extract ((ji28) : Int).toNat a1.size),t302,t303)) else (none)) else (none)) else (none)) = some (r1,r2,r3):=by (rw [hji28] at H;exact H)
           (skip)
           (skip)
           (skip)
           have hji28w : (IntKind.i64.wrap (t295 + 1)) = ji28:=(i64_w _).trans hji28
           by_cases c29 : 0 ≤ (ji28)
           ·rw [if_pos c29] at H;have c29b0:=eq_true c29;have c29b1 : decide (0 ≤ (ji28)) = true:=decide_eq_true c29;clear c29
            by_cases c30 : (ji28) ≤ (a1.size : Int)
            ·rw [if_pos c30] at H;have c30b0:=eq_true c30;have c30b1 : decide ((ji28) ≤ (a1.size : Int)) = true:=decide_eq_true c30;clear c30
             by_cases c31 : ((a1.extract 0 (t295 : Int).toNat) ++ ((a2.extract (t298 : Int).toNat a2.size).extract 0 1)).size + (a1.extract ((ji28) : Int).toNat a1.size).size ≤ 9223372036854775807
             ·rw [if_pos c31] at H;have c31b0:=eq_true c31;have c31b1 : decide (((a1.extract 0 (t295 : Int).toNat) ++ ((a2.extract (t298 : Int).toNat a2.size).extract 0 1)).size + (a1.extract ((ji28) : Int).toNat a1.size).size ≤ 9223372036854775807) = true:=decide_eq_true c31
              try have c31b2 : (9223372036854775807 < ((a1.extract 0 (t295 : Int).toNat) ++ ((a2.extract (t298 : Int).toNat a2.size).extract 0 1)).size + (a1.extract ((ji28) : Int).toNat a1.size).size) = False:=eq_false (Nat.not_lt.2 c31)
              simp only [Option.some.injEq,Prod.mk.injEq] at H;obtain ⟨rfl,rfl,rfl⟩ := H
              go_enter Tryz.func30,Tryz.ntmps30
              go_wp2_with (first | (go_at_call 53;(with_reducible refine (spec_l1Cur_pick.calls g s0_0 s0_1 s0_2 (a1.size : Int) t295 t296 t297 w0 _ ?side1 ?side2 A7.out).mono ?_);(case side1 => exact HI0.out);(case side2 => exact HB.out);rintro e w32 ⟨rfl,hi,hb,hk⟩;have n0_:=am_ (KeepBut.trans (by exact HK.out) hk (.inl rfl));have n1_:=am_ hb;have n2_:=am_ hi;clear HK;clear HB;clear HI0;have HK:=n0_;have HB:=n1_;have HI0:=n2_;clear n0_ n1_ n2_;(try clear hb);(try clear hk);(try clear hi)) | (go_at_call 53;(with_reducible refine (spec_l1Cur_pick.calls g s0_0 t296 t297 (a2.size : Int) t298 t299 t300 w0 _ ?side1 ?side2 A8.out).mono ?_);(case side1 => exact HI0.out);(case side2 => exact HB.out);rintro e w33 ⟨rfl,hi,hb,hk⟩;have n0_:=am_ (KeepBut.trans (by exact HK.out) hk (.inl rfl));have n1_:=am_ hb;have n2_:=am_ hi;clear HK;clear HB;clear HI0;have HK:=n0_;have HB:=n1_;have HI0:=n2_;clear n0_ n1_ n2_;(try clear hb);(try clear hk);(try clear hi)) | (go_at_call 53;(with_reducible refine (spec_l1Cur_pick.calls g s0_0 t299 t300 3 t301 t302 t303 w0 _ ?side1 ?side2 A13.out).mono ?_);(case side1 => exact HI0.out);(case side2 => exact HB.out);rintro e w34 ⟨rfl,hi,hb,hk⟩;have n0_:=am_ (KeepBut.trans (by exact HK.out) hk (.inl rfl));have n1_:=am_ hb;have n2_:=am_ hi;clear HK;clear HB;clear HI0;have HK:=n0_;have HB:=n1_;have HI0:=n2_;clear n0_ n1_ n2_;(try clear hb);(try clear hk);(try clear hi)))
              repeat (go_quiet (fail);try go_wp2_with (fail))
              go_ret
              exact ⟨by rfl,by repeat ((with_reducible first | exact HI0.out | apply IsS55.drewN)),by repeat ((with_reducible first | exact HB.out | apply pw_below_drewN)),by repeat ((with_reducible first | exact HK.out | apply keep_drewN))⟩
             ·rw [if_neg c31] at H
              exact absurd H (by simp)
            ·rw [if_neg c30] at H
             exact absurd H (by simp)
           ·rw [if_neg c29] at H
            exact absurd H (by simp)
          ·rw [if_neg c27] at H
           exact absurd H (by simp)
         ·rw [if_neg c26] at H
          exact absurd H (by simp)
        ·rw [if_neg c25] at H
         exact absurd H (by simp)
       ·rw [if_neg c24] at H;have c24b0 : (t301 == 1) = false:=beq_eq_false_iff_ne.mpr c24;have c24b1 : (t301 != 1) = true:=bne_iff_ne.mpr c24
        by_cases c35 : 0 ≤ t295
        ·rw [if_pos c35] at H;have c35b0:=eq_true c35;have c35b1 : decide (0 ≤ t295) = true:=decide_eq_true c35;clear c35
         by_cases c36 : t295 ≤ (a1.size : Int)
         ·rw [if_pos c36] at H;have c36b0:=eq_true c36;have c36b1 : decide (t295 ≤ (a1.size : Int)) = true:=decide_eq_true c36;clear c36;obtain ⟨ji37,hji37⟩ : ∃ j_ : Int,(wrap64 (t295 + 1)) = j_:=⟨_,rfl⟩
          replace H : (if 0 ≤ (ji37) then (if (ji37) ≤ (a1.size : Int) then (if (a1.extract 0 (t295 : Int).toNat).size + (a1.extract ((ji37) : Int).toNat a1.size).size ≤ 9223372036854775807 then (some ((a1.extract 0 (t295 : Int).toNat) ++ (a1.extract ((ji37) : Int).toNat a1.size),t302,t303)) else (none)) else (none)) else (none)) = some (r1,r2,r3):=by (rw [hji37] at H;exact H)
          (skip)
          (skip)
          (skip)
          have hji37w : (IntKind.i64.wrap (t295 + 1)) = ji37:=(i64_w _).trans hji37
          by_cases c38 : 0 ≤ (ji37)
          ·rw [if_pos c38] at H;have c38b0:=eq_true c38;have c38b1 : decide (0 ≤ (ji37)) = true:=decide_eq_true c38;clear c38
           by_cases c39 : (ji37) ≤ (a1.size : Int)
           ·rw [if_pos c39] at H;have c39b0:=eq_true c39;have c39b1 : decide ((ji37) ≤ (a1.size : Int)) = true:=decide_eq_true c39;clear c39
            by_cases c40 : (a1.extract 0 (t295 : Int).toNat).size + (a1.extract ((ji37) : Int).toNat a1.size).size ≤ 9223372036854775807
            ·rw [if_pos c40] at H;have c40b0:=eq_true c40;have c40b1 : decide ((a1.extract 0 (t295 : Int).toNat).size + (a1.extract ((ji37) : Int).toNat a1.size).size ≤ 9223372036854775807) = true:=decide_eq_true c40
             try have c40b2 : (9223372036854775807 < (a1.extract 0 (t295 : Int).toNat).size + (a1.extract ((ji37) : Int).toNat a1.size).size) = False:=eq_false (Nat.not_lt.2 c40)
             simp only [Option.some.injEq,Prod.mk.injEq] at H;obtain ⟨rfl,rfl,rfl⟩ := H
             go_enter Tryz.func30,Tryz.ntmps30
             go_wp2_with (first | (go_at_call 53;(with_reducible refine (spec_l1Cur_pick.calls g s0_0 s0_1 s0_2 (a1.size : Int) t295 t296 t297 w0 _ ?side1 ?side2 A7.out).mono ?_);(case side1 => exact HI0.out);(case side2 => exact HB.out);rintro e w41 ⟨rfl,hi,hb,hk⟩;have n0_:=am_ (KeepBut.trans (by exact HK.out) hk (.inl rfl));have n1_:=am_ hb;have n2_:=am_ hi;clear HK;clear HB;clear HI0;have HK:=n0_;have HB:=n1_;have HI0:=n2_;clear n0_ n1_ n2_;(try clear hb);(try clear hk);(try clear hi)) | (go_at_call 53;(with_reducible refine (spec_l1Cur_pick.calls g s0_0 t296 t297 (a2.size : Int) t298 t299 t300 w0 _ ?side1 ?side2 A8.out).mono ?_);(case side1 => exact HI0.out);(case side2 => exact HB.out);rintro e w42 ⟨rfl,hi,hb,hk⟩;have n0_:=am_ (KeepBut.trans (by exact HK.out) hk (.inl rfl));have n1_:=am_ hb;have n2_:=am_ hi;clear HK;clear HB;clear HI0;have HK:=n0_;have HB:=n1_;have HI0:=n2_;clear n0_ n1_ n2_;(try clear hb);(try clear hk);(try clear hi)) | (go_at_call 53;(with_reducible refine (spec_l1Cur_pick.calls g s0_0 t299 t300 3 t301 t302 t303 w0 _ ?side1 ?side2 A13.out).mono ?_);(case side1 => exact HI0.out);(case side2 => exact HB.out);rintro e w43 ⟨rfl,hi,hb,hk⟩;have n0_:=am_ (KeepBut.trans (by exact HK.out) hk (.inl rfl));have n1_:=am_ hb;have n2_:=am_ hi;clear HK;clear HB;clear HI0;have HK:=n0_;have HB:=n1_;have HI0:=n2_;clear n0_ n1_ n2_;(try clear hb);(try clear hk);(try clear hi)))
             repeat (go_quiet (fail);try go_wp2_with (fail))
             go_ret
             exact ⟨by rfl,by repeat ((with_reducible first | exact HI0.out | apply IsS55.drewN)),by repeat ((with_reducible first | exact HB.out | apply pw_below_drewN)),by repeat ((with_reducible first | exact HK.out | apply keep_drewN))⟩
            ·rw [if_neg c40] at H
             exact absurd H (by simp)
           ·rw [if_neg c39] at H
            exact absurd H (by simp)
          ·rw [if_neg c38] at H
           exact absurd H (by simp)
         ·rw [if_neg c36] at H
          exact absurd H (by simp)
        ·rw [if_neg c35] at H
         exact absurd H (by simp)
     ·rw [if_neg c12] at H
      exact absurd H (by simp)
    ·rw [if_neg c11] at H
     exact absurd H (by simp)
   ·rw [if_neg c10] at H
    exact absurd H (by simp)
  ·rw [if_neg c9] at H
   exact absurd H (by simp)

/-! ### spec_DrawParseCharge: function 10 -/
def spec_DrawParseCharge.f (k : Nat) (l0 : List Int) : Option (ByteArray):=(spec_l1Cur_charge.f k l0 0 0).bind fun bt305 => ((spec_ChargeText.f k bt305.1 bt305.2.1 bt305.2.2.1).bind fun bt312 => ((spec_l1Cur_one.f l0 bt305.2.2.2.1 bt305.2.2.2.2 4).bind fun bt314 => (if bt314.1 = true then ((spec_l1Cur_spoilt.f l0 bt314.2.1 bt314.2.2 bt312.1 (⟨#[44,32,120,49]⟩ : ByteArray)).bind fun bt317 => (some bt317.1)) else (some bt312.1))))
theorem spec_DrawParseCharge.mono : ∀ a0 k,LeO (spec_DrawParseCharge.f k a0) (spec_DrawParseCharge.f (k + 1) a0):=by
 intro a0 k
 unfold spec_DrawParseCharge.f
 repeat' first
   | (with_reducible exact spec_ChargeText.mono _ _ _ _)
   | (with_reducible exact spec_l1Cur_charge.mono _ _ _ _)
   | (with_reducible exact LeO.refl _)
   | (with_reducible exact LeO.none _)
   | (with_reducible refine LeO.ite ?_ ?_)
   | (with_reducible refine LeO.bind ?_ (fun _ => ?_))
   | exact spec_ChargeText.mono _ _ _ _
   | exact spec_l1Cur_charge.mono _ _ _ _
   | exact LeO.none _
   | refine LeO.ite ?_ ?_
   | refine LeO.bind ?_ (fun _ => ?_)
set_option maxHeartbeats 8000000 in
set_option maxRecDepth 100000 in
theorem spec_DrawParseCharge.calls (k : Nat) (A0 : Option Addr) (c0 : Nat) (l0 : List Int) (r : ByteArray) (w : World) (hr0 : Kd.C (Kd.int .u8) w A0 l0.length l0) (hc0 : l0.length ≤ c0) (h : spec_DrawParseCharge.f k l0 = some r) :
  Calls Tryz.prog 10 #[.slice A0 l0.length c0] w fun e w' => e = .returned (.string r) ∧ Below w.heap.size w w':=by
 have hu55:=Tryz.underlying55;have HR0:=am_ hr0;have HC0:=am_ hc0;clear hr0 hc0;have HB:=am_ (Below.refl w.heap.size w);have H : ((spec_l1Cur_charge.f k l0 0 0).bind fun bt305 => ((spec_ChargeText.f k bt305.1 bt305.2.1 bt305.2.2.1).bind fun bt312 => ((spec_l1Cur_one.f l0 bt305.2.2.2.1 bt305.2.2.2.2 4).bind fun bt314 => (if bt314.1 = true then ((spec_l1Cur_spoilt.f l0 bt314.2.1 bt314.2.2 bt312.1 (⟨#[44,32,120,49]⟩ : ByteArray)).bind fun bt317 => (some bt317.1)) else (some bt312.1))))) = some r:=h;clear h;replace H:=Option.bind_eq_some_iff.mp H;obtain ⟨⟨t305,t306,t309,t310,t311⟩,A20,H⟩ := H;replace H : ((spec_ChargeText.f k t305 t306 t309).bind fun bt312 => ((spec_l1Cur_one.f l0 t310 t311 4).bind fun bt314 => (if bt314.1 = true then ((spec_l1Cur_spoilt.f l0 bt314.2.1 bt314.2.2 bt312.1 (⟨#[44,32,120,49]⟩ : ByteArray)).bind fun bt317 => (some bt317.1)) else (some bt312.1)))) = some r:=H;have A2:=am_ A20;clear A20;replace H:=Option.bind_eq_some_iff.mp H;obtain ⟨⟨t312,t313⟩,A30,H⟩ := H;replace H : ((spec_l1Cur_one.f l0 t310 t311 4).bind fun bt314 => (if bt314.1 = true then ((spec_l1Cur_spoilt.f l0 bt314.2.1 bt314.2.2 t312 (⟨#[44,32,120,49]⟩ : ByteArray)).bind fun bt317 => (some bt317.1)) else (some t312))) = some r:=H;have A3:=am_ A30;clear A30;replace H:=Option.bind_eq_some_iff.mp H;obtain ⟨⟨t314,t315,t316⟩,A40,H⟩ := H;replace H : (if t314 = true then ((spec_l1Cur_spoilt.f l0 t315 t316 t312 (⟨#[44,32,120,49]⟩ : ByteArray)).bind fun bt317 => (some bt317.1)) else (some t312)) = some r:=H;have A4:=am_ A40;clear A40
 by_cases c5 : t314 = true
 ·subst c5
  have H1 : ((spec_l1Cur_spoilt.f l0 t315 t316 t312 (⟨#[44,32,120,49]⟩ : ByteArray)).bind fun bt317 => (some bt317.1)) = some r:=by rw [if_pos rfl] at H;exact H
  clear H;have H:=H1;clear H1;replace H:=Option.bind_eq_some_iff.mp H;obtain ⟨⟨t317,t318,t319⟩,A60,H⟩ := H;replace H : (some t317) = some r:=H;have A6:=am_ A60;clear A60;obtain rfl:=Option.some.inj H
  go_enter Tryz.func10,Tryz.ntmps10
  go_wp2_with (first | ((with_reducible refine gate_dst (N:=8) rfl ?_);refine box_event ?hg (N:=8) ?hd (cs:=#[.slice A0 l0.length c0, .int .i64 0, .int .u64 0]) (t:=55) ?hr ?_;(case hd => rfl);(case hg => rfl);(case hr => (go_simp;done));intro gb304 hg w7 hbox hb;have n0_:=am_ (below_step (by exact HB.out) hb);have n1_:=am_ ((show IsS55 w _ gb304 l0 0 0 from ⟨_,_,hbox,(ge_ hg (by exact HB.out)),HR0.out⟩));clear HB;have HB:=n0_;have HI304:=n1_;clear n0_ n1_;clear hb hbox hg) | ((with_reducible refine gate_callee (f:=28) rfl ?_);refine goesL_ (some 11) rfl rfl Tryz.func28 (by kernel_rfl) rfl #[.pointer (some ⟨gb304,0,none⟩)] rfl (by (try simp only [List.map_toArray,List.map_cons,List.map_nil]);rfl) ?_;(with_reducible refine (spec_l1Cur_charge.calls k gb304 l0 0 0 t305 t306 t309 t310 t311 w _ ?side1 ?side2 A2.out).mono ?_);(case side1 => exact HI304.out);(case side2 => exact HB.out);rintro e w8 ⟨v307,rfl,ho0,hi,hb,hk⟩;refine ⟨_,rfl, ?_⟩;have n0_:=am_ (Kd.R_lower ho0 (below_size (by exact HB.out)));have n1_:=am_ hb;have n2_:=am_ hi;clear HB;clear HI304;have HO308:=n0_;have HB:=n1_;have HI304:=n2_;clear n0_ n1_ n2_;(try clear hb);(try clear hk);(try clear hi);(try clear ho0);obtain ⟨Ao9,co9,eo9⟩ := Kd.R_slice HO308.out;subst eo9) | ((with_reducible refine gate_callee (f:=7) rfl ?_);refine goesL_ (some 12) rfl rfl Tryz.func7 (by kernel_rfl) rfl #[.agg #[.int .i64 t305, .slice Ao9 t306.length co9, .int .i64 t309]] rfl (by (try simp only [List.map_toArray,List.map_cons,List.map_nil]);rfl) ?_;(with_reducible refine (spec_ChargeText.calls k t305 _ _ t306 t309 t312 t313 _ ?side1 ?side2 A3.out).mono ?_);(case side1 => repeat (exact (Kd.R_reads' HO308.out).2.2));(case side2 => exact (Kd.R_reads' HO308.out).2.1);rintro e w10 ⟨rfl,hb⟩;refine ⟨_,rfl, ?_⟩;have n0_:=am_ (Kd.R_below (by exact HO308.out) hb);have n1_:=am_ (IsS55.below (by exact HI304.out) hb);have n2_:=am_ (below_step (by exact HB.out) hb);clear HO308;clear HI304;clear HB;have HO308:=n0_;have HI304:=n1_;have HB:=n2_;clear n0_ n1_ n2_;(try clear hb)) | ((with_reducible refine gate_callee (f:=29) rfl ?_);refine goesL_ (some 16) rfl rfl Tryz.func29 (by kernel_rfl) rfl #[.pointer (some ⟨gb304,0,none⟩), .int .i64 4] rfl (by (try simp only [List.map_toArray,List.map_cons,List.map_nil]);rfl) ?_;(with_reducible refine (spec_l1Cur_one.calls gb304 l0 t310 t311 4 true t315 t316 w _ ?side1 ?side2 A4.out).mono ?_);(case side1 => exact HI304.out);(case side2 => exact HB.out);rintro e w11 ⟨rfl,hi,hb,hk⟩;refine ⟨_,rfl, ?_⟩;have n0_:=am_ (Kd.R_mono (Kd.R_keep (IsS55.apart (show IsS55 w _ gb304 l0 t310 t311 from by exact HI304.out) (by exact HO308.out) (by decide)) hk (fun _ h => h.2)) (fun _ h => h.1));have n1_:=am_ hb;have n2_:=am_ hi;clear HO308;clear HB;clear HI304;have HO308:=n0_;have HB:=n1_;have HI304:=n2_;clear n0_ n1_ n2_;(try clear hb);(try clear hk);(try clear hi)) | ((with_reducible refine gate_callee (f:=30) rfl ?_);refine goesL_ (some 19) rfl rfl Tryz.func30 (by kernel_rfl) rfl #[.pointer (some ⟨gb304,0,none⟩), .string t312, .string (⟨#[44,32,120,49]⟩ : ByteArray)] rfl (by (try simp only [List.map_toArray,List.map_cons,List.map_nil]);rfl) ?_;(with_reducible refine (spec_l1Cur_spoilt.calls gb304 l0 t315 t316 t312 (⟨#[44,32,120,49]⟩ : ByteArray) t317 t318 t319 w _ ?side1 ?side2 A6.out).mono ?_);(case side1 => exact HI304.out);(case side2 => exact HB.out);rintro e w12 ⟨rfl,hi,hb,hk⟩;refine ⟨_,rfl, ?_⟩;have n0_:=am_ (Kd.R_mono (Kd.R_keep (IsS55.apart (show IsS55 w _ gb304 l0 t315 t316 from by exact HI304.out) (by exact HO308.out) (by decide)) hk (fun _ h => h.2)) (fun _ h => h.1));have n1_:=am_ hb;have n2_:=am_ hi;clear HO308;clear HB;clear HI304;have HO308:=n0_;have HB:=n1_;have HI304:=n2_;clear n0_ n1_ n2_;(try clear hb);(try clear hk);(try clear hi)))
  go_ret
  exact ⟨by rfl,by exact HB.out⟩
 ·replace c5:=Bool.eq_false_iff.mpr c5;subst c5
  have H1 : (some t312) = some r:=by rw [if_neg (show ¬ (false = true) by decide)] at H;exact H
  clear H;have H:=H1;clear H1;obtain rfl:=Option.some.inj H
  go_enter Tryz.func10,Tryz.ntmps10
  go_wp2_with (first | ((with_reducible refine gate_dst (N:=8) rfl ?_);refine box_event ?hg (N:=8) ?hd (cs:=#[.slice A0 l0.length c0, .int .i64 0, .int .u64 0]) (t:=55) ?hr ?_;(case hd => rfl);(case hg => rfl);(case hr => (go_simp;done));intro gb304 hg w13 hbox hb;have n0_:=am_ (below_step (by exact HB.out) hb);have n1_:=am_ ((show IsS55 w _ gb304 l0 0 0 from ⟨_,_,hbox,(ge_ hg (by exact HB.out)),HR0.out⟩));clear HB;have HB:=n0_;have HI304:=n1_;clear n0_ n1_;clear hb hbox hg) | ((with_reducible refine gate_callee (f:=28) rfl ?_);refine goesL_ (some 11) rfl rfl Tryz.func28 (by kernel_rfl) rfl #[.pointer (some ⟨gb304,0,none⟩)] rfl (by (try simp only [List.map_toArray,List.map_cons,List.map_nil]);rfl) ?_;(with_reducible refine (spec_l1Cur_charge.calls k gb304 l0 0 0 t305 t306 t309 t310 t311 w _ ?side1 ?side2 A2.out).mono ?_);(case side1 => exact HI304.out);(case side2 => exact HB.out);rintro e w14 ⟨v307,rfl,ho0,hi,hb,hk⟩;refine ⟨_,rfl, ?_⟩;have n0_:=am_ (Kd.R_lower ho0 (below_size (by exact HB.out)));have n1_:=am_ hb;have n2_:=am_ hi;clear HB;clear HI304;have HO308:=n0_;have HB:=n1_;have HI304:=n2_;clear n0_ n1_ n2_;(try clear hb);(try clear hk);(try clear hi);(try clear ho0);obtain ⟨Ao15,co15,eo15⟩ := Kd.R_slice HO308.out;subst eo15) | ((with_reducible refine gate_callee (f:=7) rfl ?_);refine goesL_ (some 12) rfl rfl Tryz.func7 (by kernel_rfl) rfl #[.agg #[.int .i64 t305, .slice Ao15 t306.length co15, .int .i64 t309]] rfl (by (try simp only [List.map_toArray,List.map_cons,List.map_nil]);rfl) ?_;(with_reducible refine (spec_ChargeText.calls k t305 _ _ t306 t309 t312 t313 _ ?side1 ?side2 A3.out).mono ?_);(case side1 => repeat (exact (Kd.R_reads' HO308.out).2.2));(case side2 => exact (Kd.R_reads' HO308.out).2.1);rintro e w16 ⟨rfl,hb⟩;refine ⟨_,rfl, ?_⟩;have n0_:=am_ (Kd.R_below (by exact HO308.out) hb);have n1_:=am_ (IsS55.below (by exact HI304.out) hb);have n2_:=am_ (below_step (by exact HB.out) hb);clear HO308;clear HI304;clear HB;have HO308:=n0_;have HI304:=n1_;have HB:=n2_;clear n0_ n1_ n2_;(try clear hb)) | ((with_reducible refine gate_callee (f:=29) rfl ?_);refine goesL_ (some 16) rfl rfl Tryz.func29 (by kernel_rfl) rfl #[.pointer (some ⟨gb304,0,none⟩), .int .i64 4] rfl (by (try simp only [List.map_toArray,List.map_cons,List.map_nil]);rfl) ?_;(with_reducible refine (spec_l1Cur_one.calls gb304 l0 t310 t311 4 false t315 t316 w _ ?side1 ?side2 A4.out).mono ?_);(case side1 => exact HI304.out);(case side2 => exact HB.out);rintro e w17 ⟨rfl,hi,hb,hk⟩;refine ⟨_,rfl, ?_⟩;have n0_:=am_ (Kd.R_mono (Kd.R_keep (IsS55.apart (show IsS55 w _ gb304 l0 t310 t311 from by exact HI304.out) (by exact HO308.out) (by decide)) hk (fun _ h => h.2)) (fun _ h => h.1));have n1_:=am_ hb;have n2_:=am_ hi;clear HO308;clear HB;clear HI304;have HO308:=n0_;have HB:=n1_;have HI304:=n2_;clear n0_ n1_ n2_;(try clear hb);(try clear hk);(try clear hi)))
  go_ret
  exact ⟨by rfl,by exact HB.out⟩

end Go.Proofs.YtciecfaeeogdoaaGreatDoor.PFnTariffs
