-- Written by a program of this session, over the kit's print (wip/xprint.py)
import Derived.Test.YtcpoiklimbfppaaPFnExactBookEarliestx0
import Derived.Test.YtcpoiklimbfppaaPFnExactBookEarliestx2
import Derived.Test.YtcpoiklimbfppaaPFnExactBookEarliestx3
namespace Go.Proofs.Ytcpoiklimbfppaa.PFnExactBookEarliest
open Go.RowKit Go.Proofs.YtcpoiklimbfppaaW.PrintWords Go.Proofs.YtcpoiklimbfppaaW.PrintLast Go.Proofs.YtcpoiklimbfppaaW.PrintMore
attribute [local go_sem] max2_int min2_int max_two min_two max_three min_three max_four min_four   -- for this text's walks alone
set_option linter.unusedVariables false
set_option linter.unusedSimpArgs false

/-! ### spec_l18Good: function 28 -/
mutual
def spec_l18Good.j0 : Nat → Bool → List Int → List (List Int) → Option (Bool)
 | 0,_,_,_ => none
 | k + 1,x20,x154000,x154001 => if x20 = true then (some false) else (spec_l18Good.l0 k 0 0 x154000 x154001)
def spec_l18Good.l0 : Nat → Int → Int → List Int → List (List Int) → Option (Bool)
 | 0,_,_,_,_ => none
 | k + 1,x3,x4,x154000,x154001 => if x4 < (x154001.length : Int) then (if 0 ≤ x4 then (if x4 < (x154000.length : Int) then ((spec_l1In.f (rd x154000 x4) 0 6).bind fun t157 => (if t157 = true then (spec_l18Good.j2 k x3 x4 (rd_L1 x154001 x4) (decide (((rd_L1 x154001 x4).length : Int) > (rd x154000 x4))) x154000 x154001) else (spec_l18Good.j2 k x3 x4 (rd_L1 x154001 x4) true x154000 x154001))) else (none)) else (none)) else (some (decide (x3 ≤ 30)))
def spec_l18Good.j2 : Nat → Int → Int → List Int → Bool → List Int → List (List Int) → Option (Bool)
 | 0,_,_,_,_,_,_ => none
 | k + 1,x3,x4,x5,x49,x154000,x154001 => if x49 = true then (some false) else (spec_l18Good.l1 k x3 x4 x5 0 x154000 x154001)
def spec_l18Good.l1 : Nat → Int → Int → List Int → Int → List Int → List (List Int) → Option (Bool)
 | 0,_,_,_,_,_,_ => none
 | k + 1,x3,x4,x5,x6,x154000,x154001 => if x6 < (x5.length : Int) then (if 0 ≤ x6 then ((spec_l1In.f (rd x5 x6) 1 99).bind fun t160 => (if t160 = true then (if x6 > 0 then (if 0 ≤ (wrap64 (x6 - 1)) then (if (wrap64 (x6 - 1)) < (x5.length : Int) then (if (rd x5 (wrap64 (x6 - 1))) ≥ (rd x5 x6) then (some false) else ((spec_l18Find.f k x154000 x154001 (rd x5 x6)).bind fun t164 => (if t164 = x4 then (spec_l18Good.l1 k x3 x4 x5 (wrap64 (x6 + 1)) x154000 x154001) else (some false)))) else (none)) else (none)) else ((spec_l18Find.f k x154000 x154001 (rd x5 x6)).bind fun t166 => (if t166 = x4 then (spec_l18Good.l1 k x3 x4 x5 (wrap64 (x6 + 1)) x154000 x154001) else (some false)))) else (some false))) else (none)) else (spec_l18Good.l0 k (wrap64 (x3 + (x5.length : Int))) (wrap64 (x4 + 1)) x154000 x154001)
end
def spec_l18Good.f (k : Nat) (l0_0 : List Int) (l0_1 : List (List Int)) : Option (Bool):=(spec_l1In.f (l0_0.length : Int) 1 12).bind fun t154 => (if t154 = true then (spec_l18Good.j0 k ((l0_1.length : Int) != (l0_0.length : Int)) l0_0 l0_1) else (spec_l18Good.j0 k true l0_0 l0_1))
theorem spec_l18Good.mono_l : ∀ k,(∀ y0 y1 y2,LeO (spec_l18Good.j0 k y0 y1 y2) (spec_l18Good.j0 (k + 1) y0 y1 y2)) ∧ (∀ y0 y1 y2 y3,LeO (spec_l18Good.l0 k y0 y1 y2 y3) (spec_l18Good.l0 (k + 1) y0 y1 y2 y3)) ∧ (∀ y0 y1 y2 y3 y4 y5,LeO (spec_l18Good.j2 k y0 y1 y2 y3 y4 y5) (spec_l18Good.j2 (k + 1) y0 y1 y2 y3 y4 y5)) ∧ (∀ y0 y1 y2 y3 y4 y5,LeO (spec_l18Good.l1 k y0 y1 y2 y3 y4 y5) (spec_l18Good.l1 (k + 1) y0 y1 y2 y3 y4 y5))
 | 0 => ⟨fun _ _ _ r h => by simp [spec_l18Good.j0] at h,fun _ _ _ _ r h => by simp [spec_l18Good.l0] at h,fun _ _ _ _ _ _ r h => by simp [spec_l18Good.j2] at h,fun _ _ _ _ _ _ r h => by simp [spec_l18Good.l1] at h⟩
 | k + 1 => by
  obtain ⟨ih0,ih1,ih2,ih3⟩ := spec_l18Good.mono_l k;refine ⟨?_, ?_, ?_, ?_⟩
  ·intro y0 y1 y2
   unfold spec_l18Good.j0
   repeat' first
   | (with_reducible exact ih0 _ _ _)
   | (with_reducible exact ih1 _ _ _ _)
   | (with_reducible exact ih2 _ _ _ _ _ _)
   | (with_reducible exact ih3 _ _ _ _ _ _)
   | (with_reducible exact spec_l18Find.mono _ _ _ _)
   | (with_reducible exact LeO.refl _)
   | (with_reducible exact LeO.none _)
   | (with_reducible refine LeO.ite ?_ ?_)
   | (with_reducible refine LeO.bind ?_ (fun _ => ?_))
   | exact ih0 _ _ _
   | exact ih1 _ _ _ _
   | exact ih2 _ _ _ _ _ _
   | exact ih3 _ _ _ _ _ _
   | exact spec_l18Find.mono _ _ _ _
   | exact LeO.none _
   | refine LeO.ite ?_ ?_
   | refine LeO.bind ?_ (fun _ => ?_)
  ·intro y0 y1 y2 y3
   unfold spec_l18Good.l0
   repeat' first
   | (with_reducible exact ih0 _ _ _)
   | (with_reducible exact ih1 _ _ _ _)
   | (with_reducible exact ih2 _ _ _ _ _ _)
   | (with_reducible exact ih3 _ _ _ _ _ _)
   | (with_reducible exact spec_l18Find.mono _ _ _ _)
   | (with_reducible exact LeO.refl _)
   | (with_reducible exact LeO.none _)
   | (with_reducible refine LeO.ite ?_ ?_)
   | (with_reducible refine LeO.bind ?_ (fun _ => ?_))
   | exact ih0 _ _ _
   | exact ih1 _ _ _ _
   | exact ih2 _ _ _ _ _ _
   | exact ih3 _ _ _ _ _ _
   | exact spec_l18Find.mono _ _ _ _
   | exact LeO.none _
   | refine LeO.ite ?_ ?_
   | refine LeO.bind ?_ (fun _ => ?_)
  ·intro y0 y1 y2 y3 y4 y5
   unfold spec_l18Good.j2
   repeat' first
   | (with_reducible exact ih0 _ _ _)
   | (with_reducible exact ih1 _ _ _ _)
   | (with_reducible exact ih2 _ _ _ _ _ _)
   | (with_reducible exact ih3 _ _ _ _ _ _)
   | (with_reducible exact spec_l18Find.mono _ _ _ _)
   | (with_reducible exact LeO.refl _)
   | (with_reducible exact LeO.none _)
   | (with_reducible refine LeO.ite ?_ ?_)
   | (with_reducible refine LeO.bind ?_ (fun _ => ?_))
   | exact ih0 _ _ _
   | exact ih1 _ _ _ _
   | exact ih2 _ _ _ _ _ _
   | exact ih3 _ _ _ _ _ _
   | exact spec_l18Find.mono _ _ _ _
   | exact LeO.none _
   | refine LeO.ite ?_ ?_
   | refine LeO.bind ?_ (fun _ => ?_)
  ·intro y0 y1 y2 y3 y4 y5
   unfold spec_l18Good.l1
   repeat' first
   | (with_reducible exact ih0 _ _ _)
   | (with_reducible exact ih1 _ _ _ _)
   | (with_reducible exact ih2 _ _ _ _ _ _)
   | (with_reducible exact ih3 _ _ _ _ _ _)
   | (with_reducible exact spec_l18Find.mono _ _ _ _)
   | (with_reducible exact LeO.refl _)
   | (with_reducible exact LeO.none _)
   | (with_reducible refine LeO.ite ?_ ?_)
   | (with_reducible refine LeO.bind ?_ (fun _ => ?_))
   | exact ih0 _ _ _
   | exact ih1 _ _ _ _
   | exact ih2 _ _ _ _ _ _
   | exact ih3 _ _ _ _ _ _
   | exact spec_l18Find.mono _ _ _ _
   | exact LeO.none _
   | refine LeO.ite ?_ ?_
   | refine LeO.bind ?_ (fun _ => ?_)
theorem spec_l18Good.mono : ∀ a0 a1 k,LeO (spec_l18Good.f k a0 a1) (spec_l18Good.f (k + 1) a0 a1):=by
 intro a0 a1 k;obtain ⟨ih0,ih1,ih2,ih3⟩ := spec_l18Good.mono_l k
 unfold spec_l18Good.f
 repeat' first
   | (with_reducible exact ih0 _ _ _)
   | (with_reducible exact ih1 _ _ _ _)
   | (with_reducible exact ih2 _ _ _ _ _ _)
   | (with_reducible exact ih3 _ _ _ _ _ _)
   | (with_reducible exact spec_l18Find.mono _ _ _ _)
   | (with_reducible exact LeO.refl _)
   | (with_reducible exact LeO.none _)
   | (with_reducible refine LeO.ite ?_ ?_)
   | (with_reducible refine LeO.bind ?_ (fun _ => ?_))
   | exact ih0 _ _ _
   | exact ih1 _ _ _ _
   | exact ih2 _ _ _ _ _ _
   | exact ih3 _ _ _ _ _ _
   | exact spec_l18Find.mono _ _ _ _
   | exact LeO.none _
   | refine LeO.ite ?_ ?_
   | refine LeO.bind ?_ (fun _ => ?_)
def spec_l18Good.T13 : Bool × List (List Nat × List Nat):=(true,[([],[]),([],[]),([0,1],[0,1]),([2],[2]),([3],[3]),([4],[4]),([5,4],[5]),([6],[6]),([7,6],[6,7]),([8,6,6],[6,8]),([9],[9]),([9],[9]),([11,9],[9,11]),([10,12,9],[9,10,12]),([13,9],[9,13]),([9],[9]),([9],[9]),([15,16,9],[9,15,16]),([17,9],[9,17]),([14,18,9],[9,14,18]),([9,19,6],[6,9,19]),([6,20],[6,20]),([21,9],[21]),([22],[22]),([22],[22]),([22],[22]),([24,25,22],[22,24,25]),([26,22],[22,26]),([23,27,22,22],[22,23,27]),([22],[22]),([28,29,22],[22,28,29]),([22,30],[22,30])])
def spec_l18Good.B13 : List Nat := [0,0,3,7,15,31,63,127,255,511,1023,1023,3071,8191,16383,1023,1023,99327,230399,524287,1048575,2097151,4194303,8388607,8388607,8388607,58720255,125829119,268435455,8388607,1073741823,2147483647]
theorem spec_l18Good.tab13 : rtab .any (opsOf Try.f28 13) = spec_l18Good.T13:=by kernel_rfl
theorem spec_l18Good.bits13 : waitsOk spec_l18Good.T13.2 spec_l18Good.B13 = true:=by kernel_rfl
set_option maxHeartbeats 8000000 in
set_option maxRecDepth 100000 in
theorem spec_l18Good.calls (k : Nat) (A0_0 : Option Addr) (c0_0 : Nat) (l0_0 : List Int) (A0_1 : Option Addr) (c0_1 : Nat) (l0_1 : List (List Int)) (r : Bool) (w : World) (hr0_0 : Kd.C (Kd.int .i64) w A0_0 l0_0.length l0_0) (hc0_0 : l0_0.length ≤ c0_0) (hr0_1 : Kd.C (Kd.slice 3 (Kd.int .i64)) w A0_1 l0_1.length l0_1) (hc0_1 : l0_1.length ≤ c0_1) (h : spec_l18Good.f k l0_0 l0_1 = some r) :
  Calls Try.prog 28 #[.agg #[.slice A0_0 l0_0.length c0_0, .slice A0_1 l0_1.length c0_1]] w fun e w' => e = .returned (.bool r) ∧ Below w.heap.size w w':=by
 have hu27:=Try.underlying27;have HR0_0:=am_ hr0_0;have HC0_0:=am_ hc0_0;clear hr0_0 hc0_0;have HR0_1:=am_ hr0_1;have HC0_1:=am_ hc0_1;clear hr0_1 hc0_1;have HB:=am_ (Below.refl w.heap.size w);have H : ((spec_l1In.f (l0_0.length : Int) 1 12).bind fun t154 => (if t154 = true then (spec_l18Good.j0 k ((l0_1.length : Int) != (l0_0.length : Int)) l0_0 l0_1) else (spec_l18Good.j0 k true l0_0 l0_1))) = some r:=h;clear h;have HC2:=am_ H;clear H
 go_enter Try.func28,Try.ntmps28
 go_upto_region 1 with (first | ((with_reducible refine gate_dst (N:=1) rfl ?_);(try (refine gate_guard (by rfl) ?_;dsimp only));refine box_event ?hg (N:=1) ?hd (cs:=#[.slice A0_0 l0_0.length c0_0, .slice A0_1 l0_1.length c0_1]) (t:=27) ?hr ?_;(case hd => rfl);(case hg => rfl);(case hr => first | (go_simp;done) | (go_simp;rfl));intro gb153 hg w3 hbox hb;have n0_:=am_ (below_step (by repeat (first | (with_reducible first | exact HB.out | apply below_alloc | apply pw_below_drewN | apply below_drew1) | exact HB.out)) hb);have n1_:=am_ hbox;have n2_:=am_ ((by rw [hg];exact (below_size (by repeat (first | (with_reducible first | exact HB.out | apply below_alloc | apply pw_below_drewN | apply below_drew1) | exact HB.out))) : w.heap.size ≤ gb153));have n3_:=am_ ((by rw [hg];exact (below_size (by repeat (first | (with_reducible first | exact HB.out | apply below_alloc | apply pw_below_drewN | apply below_drew1) | exact HB.out))) : w.heap.size ≤ gb153));clear HB;have HB:=n0_;have BK153:=n1_;have GW153:=n2_;have GE153:=n3_;clear n0_ n1_ n2_ n3_;clear hb hbox hg))
 (try simp only [Act.put,sA_,s0_,s1_])
 go_cut [20] (fun v20 wc => ∃ (kq : Nat) (x20_1 : Bool),v20 = .bool x20_1 ∧ Aside0 (spec_l18Good.j0 kq x20_1 l0_0 l0_1 = some r) ∧ Aside0 (kq ≤ k) ∧ Aside0 (wc.heap[gb153]? = some (.cells #[(.slice A0_0 l0_0.length c0_0),(.slice A0_1 l0_1.length c0_1)] 27 (0,0))) ∧ Aside0 (Below w.heap.size w wc))
 case first =>
  have H:=HC2.out;clear HC2;replace H:=Option.bind_eq_some_iff.mp H;obtain ⟨t154,A40,H⟩ := H;replace H : (if t154 = true then (spec_l18Good.j0 k ((l0_1.length : Int) != (l0_0.length : Int)) l0_0 l0_1) else (spec_l18Good.j0 k true l0_0 l0_1)) = some r:=H;have A4:=am_ A40;clear A40
  by_cases c5 : t154 = true
  ·subst c5
   have H1 : (spec_l18Good.j0 k ((l0_1.length : Int) != (l0_0.length : Int)) l0_0 l0_1) = some r:=by rw [if_pos rfl] at H;exact H
   clear H;have H:=H1;clear H1;have H':=am_ H;clear H;have hcz6_0:=c2_0 BK153.out;have hcz6_1:=c2_1 BK153.out;have hfz6_0:=blk_frozen BK153.out 0;have hfz6_1:=blk_frozen BK153.out 1
   go_wp2_with (first | ((with_reducible refine gate_callee (f:=48) rfl ?_);refine goesL_ (some 10) rfl rfl Try.func48 (by kernel_rfl) rfl #[.int .i64 (l0_0.length : Int), .int .i64 1, .int .i64 12] rfl (by (try simp only [List.map_toArray,List.map_cons,List.map_nil]);first | done | rfl | (simp only [List.length_drop,List.length_take];rfl)) ?_;(with_reducible refine (spec_l1In.calls (l0_0.length : Int) 1 12 true _ A4.out).mono ?_);rintro e w' ⟨rfl,⟨nd,rfl⟩⟩;refine ⟨_,rfl, ?_⟩))
   go_meet
   case rel => exact ⟨_,(((l0_1.length : Int) != (l0_0.length : Int))),(by first | rfl | (simp;done) | (simp [*];done)),H',⟨by first | omega | exact Nat.le_refl _⟩,⟨by (with_reducible repeat (first | refine blk_drewN ?_ _ | refine blk_drew ?_ | refine blk_alloc ?_ _));exact BK153.out⟩,⟨by repeat (first | (with_reducible first | exact HB.out | apply below_alloc | apply pw_below_drewN | apply below_drew1 | refine below_set ?_ GE153.out) | exact HB.out)⟩⟩
  ·replace c5:=Bool.eq_false_iff.mpr c5;subst c5
   have H1 : (spec_l18Good.j0 k true l0_0 l0_1) = some r:=by rw [if_neg (show ¬ (false = true) by decide)] at H;exact H
   clear H;have H:=H1;clear H1;have H':=am_ H;clear H;have hcz7_0:=c2_0 BK153.out;have hcz7_1:=c2_1 BK153.out;have hfz7_0:=blk_frozen BK153.out 0;have hfz7_1:=blk_frozen BK153.out 1
   go_wp2_with (first | ((with_reducible refine gate_callee (f:=48) rfl ?_);refine goesL_ (some 10) rfl rfl Try.func48 (by kernel_rfl) rfl #[.int .i64 (l0_0.length : Int), .int .i64 1, .int .i64 12] rfl (by (try simp only [List.map_toArray,List.map_cons,List.map_nil]);first | done | rfl | (simp only [List.length_drop,List.length_take];rfl)) ?_;(with_reducible refine (spec_l1In.calls (l0_0.length : Int) 1 12 false _ A4.out).mono ?_);rintro e w' ⟨rfl,⟨nd,rfl⟩⟩;refine ⟨_,rfl, ?_⟩))
   go_meet
   case rel => exact ⟨_,(true),(by first | rfl | (simp;done) | (simp [*];done)),H',⟨by first | omega | exact Nat.le_refl _⟩,⟨by (with_reducible repeat (first | refine blk_drewN ?_ _ | refine blk_drew ?_ | refine blk_alloc ?_ _));exact BK153.out⟩,⟨by repeat (first | (with_reducible first | exact HB.out | apply below_alloc | apply pw_below_drewN | apply below_drew1 | refine below_set ?_ GE153.out) | exact HB.out)⟩⟩
 case rest =>
  clear HC2;(try clear c2);(try clear p2);(try clear c4);(try clear c5);(try clear hcz6_0);(try clear hcz6_1);(try clear hcz7_0);(try clear hcz7_1);(try clear hfz6_0);(try clear hfz6_1);(try clear hfz7_0);(try clear hfz7_1);obtain ⟨kq,x20_1,rfl,HA,HJ1,BK153,HB⟩ := hcut
  cases kq with
  | zero => exact absurd HA.out (by simp [spec_l18Good.j0])
  | succ kj1 =>
   have H:=HA.out;clear HA;simp only [spec_l18Good.j0] at H
   by_cases c8 : x20_1 = true
   ·subst c8
    have H1 : (some false) = some r:=by rw [if_pos rfl] at H;exact H
    clear H;have H:=H1;clear H1;obtain rfl:=Option.some.inj H
    go_wp2
    go_ret
    exact ⟨by first | rfl | (simp [errW_none,errW_some] <;> rfl) | (simp [*,errW_none,errW_some] <;> rfl),by repeat (first | (with_reducible first | exact HB.out | apply below_alloc | apply pw_below_drewN | apply below_drew1 | refine below_set ?_ GE153.out) | exact HB.out)⟩
   ·replace c8:=Bool.eq_false_iff.mpr c8;subst c8
    have H1 : (spec_l18Good.l0 kj1 0 0 l0_0 l0_1) = some r:=by rw [if_neg (show ¬ (false = true) by decide)] at H;exact H
    clear H;have H:=H1;clear H1;have H':=am_ H;clear H
    go_wp2
    (try simp only [Act.put,sA_,s0_,s1_])
    go_loopg [3,4] kj1 (fun kq v3 v4 w' => ∃ (x3_2 : Int) (x4_2 : Int),v3 = .int .i64 x3_2 ∧ v4 = .int .i64 x4_2 ∧ Aside0 (spec_l18Good.l0 kq x3_2 x4_2 l0_0 l0_1 = some r) ∧ Aside0 (kq ≤ kj1) ∧ Aside0 (w'.heap[gb153]? = some (.cells #[(.slice A0_0 l0_0.length c0_0),(.slice A0_1 l0_1.length c0_1)] 27 (0,0))) ∧ Aside0 (Below w.heap.size w w'))
    case atStart => exact ⟨(0),(0),(by first | rfl | (simp;done) | (simp [*];done)),(by first | rfl | (simp;done) | (simp [*];done)),H',⟨Nat.le_refl _⟩,⟨by (with_reducible repeat (first | refine blk_drewN ?_ _ | refine blk_drew ?_ | refine blk_alloc ?_ _));exact BK153.out⟩,⟨by repeat (first | (with_reducible first | exact HB.out | apply below_alloc | apply pw_below_drewN | apply below_drew1 | refine below_set ?_ GE153.out) | exact HB.out)⟩⟩
    case round =>
     clear H';(try clear c2);(try clear p2);(try clear c4);(try clear c5);(try clear c8);(try clear hcz6_0);(try clear hcz6_1);(try clear hcz7_0);(try clear hcz7_1);(try clear hfz6_0);(try clear hfz6_1);(try clear hfz7_0);(try clear hfz7_1);(try clear p2);obtain ⟨x3_2,x4_2,rfl,rfl,HA,HK2,BK153,HB⟩ := hrel
     cases gk with
     | zero => exact absurd HA.out (by simp [spec_l18Good.l0])
     | succ k2 =>
      have H:=HA.out;clear HA;simp only [spec_l18Good.l0] at H
      by_cases c9 : x4_2 < (l0_1.length : Int)
      ·rw [if_pos c9] at H;have c9b0 : decide (x4_2 < (l0_1.length : Int)) = true:=decide_eq_true c9;clear c9
       by_cases c10 : 0 ≤ x4_2
       ·rw [if_pos c10] at H;have c10b0 : decide (0 ≤ x4_2) = true:=decide_eq_true c10;clear c10;have HC11:=am_ H;clear H;have hcz12_0:=c2_0 BK153.out;have hcz12_1:=c2_1 BK153.out;have hfz12_0:=blk_frozen BK153.out 0;have hfz12_1:=blk_frozen BK153.out 1;have p155 : 0 ≤ (x4_2 : Int):=of_decide_eq_true (by first | (with_reducible assumption) | assumption);have q155 : x4_2 < (l0_1.length : Int):=of_decide_eq_true (by first | (with_reducible assumption) | assumption);obtain ⟨ad155,A155_0,c155_0,e155,hx155_0,hl155_0,hi155_0⟩ := at_L1 HR0_1.out x4_2 p155 q155;cases e155;replace hx155_0:=(HB.out.cell (World.block_lt_of_cell? w _ hx155_0)).trans hx155_0;have HR155_0:=am_ hi155_0;have HC155_0:=am_ hl155_0;clear hi155_0 hl155_0;replace p155:=eq_true p155;replace q155:=eq_true q155
        go_upto_region 8 with (fail)
        go_cut [49] (fun v49 wc => ∃ (kq : Nat) (x49_10 : Bool),v49 = .bool x49_10 ∧ Aside0 (spec_l18Good.j2 kq x3_2 x4_2 (rd_L1 l0_1 x4_2) x49_10 l0_0 l0_1 = some r) ∧ Aside0 (kq ≤ k2) ∧ Aside0 (wc.heap[gb153]? = some (.cells #[(.slice A0_0 l0_0.length c0_0),(.slice (some ad155) l0_1.length c0_1)] 27 (0,0))) ∧ Aside0 (Below w.heap.size w wc))
        case first =>
         have H:=HC11.out;clear HC11
         by_cases c13 : x4_2 < (l0_0.length : Int)
         ·rw [if_pos c13] at H;have c13b0 : decide (x4_2 < (l0_0.length : Int)) = true:=decide_eq_true c13;clear c13
          (first | rw [c13b0] | (simp only [i64_w,i32_w];rw [c13b0]) | skip)
          replace H:=Option.bind_eq_some_iff.mp H;obtain ⟨t157,A140,H⟩ := H;replace H : (if t157 = true then (spec_l18Good.j2 k2 x3_2 x4_2 (rd_L1 l0_1 x4_2) (decide (((rd_L1 l0_1 x4_2).length : Int) > (rd l0_0 x4_2))) l0_0 l0_1) else (spec_l18Good.j2 k2 x3_2 x4_2 (rd_L1 l0_1 x4_2) true l0_0 l0_1)) = some r:=H;have A14:=am_ A140;clear A140
          by_cases c15 : t157 = true
          ·subst c15
           have H1 : (spec_l18Good.j2 k2 x3_2 x4_2 (rd_L1 l0_1 x4_2) (decide (((rd_L1 l0_1 x4_2).length : Int) > (rd l0_0 x4_2))) l0_0 l0_1) = some r:=by rw [if_pos rfl] at H;exact H
           clear H;have H:=H1;clear H1;have H':=am_ H;clear H;have hcz16_0:=c2_0 BK153.out;have hcz16_1:=c2_1 BK153.out;have hfz16_0:=blk_frozen BK153.out 0;have hfz16_1:=blk_frozen BK153.out 1;have p156 : 0 ≤ (x4_2 : Int):=of_decide_eq_true (by first | (with_reducible assumption) | assumption);have q156 : x4_2 < (l0_0.length : Int):=of_decide_eq_true (by first | (with_reducible assumption) | assumption);obtain ⟨ad156,e156,hx156_0⟩ := Kd.at_int HR0_0.out x4_2 p156 q156;cases e156;replace hx156_0:=(HB.out.cell (World.block_lt_of_cell? w _ hx156_0)).trans hx156_0;replace p156:=eq_true p156;replace q156:=eq_true q156
           go_wp2_with (first | ((with_reducible refine gate_callee (f:=48) rfl ?_);refine goesL_ (some 38) rfl rfl Try.func48 (by kernel_rfl) rfl #[.int .i64 (rd l0_0 x4_2), .int .i64 0, .int .i64 6] rfl (by (try simp only [List.map_toArray,List.map_cons,List.map_nil]);first | done | rfl | (simp only [List.length_drop,List.length_take];rfl)) ?_;(with_reducible refine (spec_l1In.calls (rd l0_0 x4_2) 0 6 true _ A14.out).mono ?_);rintro e w' ⟨rfl,⟨nd,rfl⟩⟩;refine ⟨_,rfl, ?_⟩;have p158 : 0 ≤ (x4_2 : Int):=of_decide_eq_true (by first | (with_reducible assumption) | assumption);have q158 : x4_2 < (l0_0.length : Int):=of_decide_eq_true (by first | (with_reducible assumption) | assumption);obtain ⟨ad158,e158,hx158_0⟩ := Kd.at_int HR0_0.out x4_2 p158 q158;obtain rfl : ad156 = ad158:=(by injection e158);replace hx158_0:=(HB.out.cell (World.block_lt_of_cell? w _ hx158_0)).trans hx158_0;replace p158:=eq_true p158;replace q158:=eq_true q158))
           go_meet
           case rel => exact ⟨_,(decide (((rd_L1 l0_1 x4_2).length : Int) > (rd l0_0 x4_2))),(by first | rfl | (simp;done) | (simp [*];done)),H',⟨by have:=HJ1.out;have:=HK2.out;first | omega | exact Nat.le_refl _⟩,⟨by (with_reducible repeat (first | refine blk_drewN ?_ _ | refine blk_drew ?_ | refine blk_alloc ?_ _));exact BK153.out⟩,⟨by repeat (first | (with_reducible first | exact HB.out | apply below_alloc | apply pw_below_drewN | apply below_drew1 | refine below_set ?_ GE153.out) | exact HB.out)⟩⟩
          ·replace c15:=Bool.eq_false_iff.mpr c15;subst c15
           have H1 : (spec_l18Good.j2 k2 x3_2 x4_2 (rd_L1 l0_1 x4_2) true l0_0 l0_1) = some r:=by rw [if_neg (show ¬ (false = true) by decide)] at H;exact H
           clear H;have H:=H1;clear H1;have H':=am_ H;clear H;have hcz17_0:=c2_0 BK153.out;have hcz17_1:=c2_1 BK153.out;have hfz17_0:=blk_frozen BK153.out 0;have hfz17_1:=blk_frozen BK153.out 1;have p156 : 0 ≤ (x4_2 : Int):=of_decide_eq_true (by first | (with_reducible assumption) | assumption);have q156 : x4_2 < (l0_0.length : Int):=of_decide_eq_true (by first | (with_reducible assumption) | assumption);obtain ⟨ad156,e156,hx156_0⟩ := Kd.at_int HR0_0.out x4_2 p156 q156;cases e156;replace hx156_0:=(HB.out.cell (World.block_lt_of_cell? w _ hx156_0)).trans hx156_0;replace p156:=eq_true p156;replace q156:=eq_true q156
           go_wp2_with (first | ((with_reducible refine gate_callee (f:=48) rfl ?_);refine goesL_ (some 38) rfl rfl Try.func48 (by kernel_rfl) rfl #[.int .i64 (rd l0_0 x4_2), .int .i64 0, .int .i64 6] rfl (by (try simp only [List.map_toArray,List.map_cons,List.map_nil]);first | done | rfl | (simp only [List.length_drop,List.length_take];rfl)) ?_;(with_reducible refine (spec_l1In.calls (rd l0_0 x4_2) 0 6 false _ A14.out).mono ?_);rintro e w' ⟨rfl,⟨nd,rfl⟩⟩;refine ⟨_,rfl, ?_⟩))
           go_meet
           case rel => exact ⟨_,(true),(by first | rfl | (simp;done) | (simp [*];done)),H',⟨by have:=HJ1.out;have:=HK2.out;first | omega | exact Nat.le_refl _⟩,⟨by (with_reducible repeat (first | refine blk_drewN ?_ _ | refine blk_drew ?_ | refine blk_alloc ?_ _));exact BK153.out⟩,⟨by repeat (first | (with_reducible first | exact HB.out | apply below_alloc | apply pw_below_drewN | apply below_drew1 | refine below_set ?_ GE153.out) | exact HB.out)⟩⟩
         ·rw [if_neg c13] at H
          exact absurd H (by simp)
        case rest =>
         clear HC11;(try clear c1);(try clear p1);(try clear q1);(try clear hx1);(try clear c2);(try clear p2);(try clear c4);(try clear c5);(try clear c8);(try clear c9);(try clear c9b0);(try clear c10);(try clear c10b0);(try clear c13);(try clear c13b0);(try clear c15);(try clear p15);(try clear q15);(try clear hx15);(try clear hcz12_0);(try clear hcz12_1);(try clear hcz16_0);(try clear hcz16_1);(try clear hcz17_0);(try clear hcz17_1);(try clear hcz6_0);(try clear hcz6_1);(try clear hcz7_0);(try clear hcz7_1);(try clear hfz12_0);(try clear hfz12_1);(try clear hfz16_0);(try clear hfz16_1);(try clear hfz17_0);(try clear hfz17_1);(try clear hfz6_0);(try clear hfz6_1);(try clear hfz7_0);(try clear hfz7_1);(try clear hx155_0);(try clear hx156_0);(try clear hx158_0);(try clear p155);(try clear p156);(try clear p158);(try clear p2);(try clear q155);(try clear q156);(try clear q158);obtain ⟨kq,x49_10,rfl,HA,HJ10,BK153,HB⟩ := hcut
         cases kq with
         | zero => exact absurd HA.out (by simp [spec_l18Good.j2])
         | succ kj10 =>
          have H:=HA.out;clear HA;simp only [spec_l18Good.j2] at H
          by_cases c18 : x49_10 = true
          ·subst c18
           have H1 : (some false) = some r:=by rw [if_pos rfl] at H;exact H
           clear H;have H:=H1;clear H1;obtain rfl:=Option.some.inj H
           go_wp2
           go_ret
           exact ⟨by first | rfl | (simp [errW_none,errW_some] <;> rfl) | (simp [*,errW_none,errW_some] <;> rfl),by repeat (first | (with_reducible first | exact HB.out | apply below_alloc | apply pw_below_drewN | apply below_drew1 | refine below_set ?_ GE153.out) | exact HB.out)⟩
          ·replace c18:=Bool.eq_false_iff.mpr c18;subst c18
           have H1 : (spec_l18Good.l1 kj10 x3_2 x4_2 (rd_L1 l0_1 x4_2) 0 l0_0 l0_1) = some r:=by rw [if_neg (show ¬ (false = true) by decide)] at H;exact H
           clear H;have H:=H1;clear H1;have H':=am_ H;clear H
           go_wp2
           (try simp only [Act.put,sA_,s0_,s1_])
           go_loopg [6] kj10 (fun kq v6 w' => ∃ (x6_4 : Int),v6 = .int .i64 x6_4 ∧ Aside0 (spec_l18Good.l1 kq x3_2 x4_2 (rd_L1 l0_1 x4_2) x6_4 l0_0 l0_1 = some r) ∧ Aside0 (kq ≤ kj10) ∧ Aside0 (w'.heap[gb153]? = some (.cells #[(.slice A0_0 l0_0.length c0_0),(.slice (some ad155) l0_1.length c0_1)] 27 (0,0))) ∧ Aside0 (Below w.heap.size w w'))
           case atStart => exact ⟨(0),(by first | rfl | (simp;done) | (simp [*];done)),H',⟨Nat.le_refl _⟩,⟨by (with_reducible repeat (first | refine blk_drewN ?_ _ | refine blk_drew ?_ | refine blk_alloc ?_ _));exact BK153.out⟩,⟨by repeat (first | (with_reducible first | exact HB.out | apply below_alloc | apply pw_below_drewN | apply below_drew1 | refine below_set ?_ GE153.out) | exact HB.out)⟩⟩
           case round =>
            clear H';(try clear c1);(try clear p1);(try clear q1);(try clear hx1);(try clear c2);(try clear p2);(try clear c4);(try clear c5);(try clear c8);(try clear c9);(try clear c9b0);(try clear c10);(try clear c10b0);(try clear c13);(try clear c13b0);(try clear c15);(try clear p15);(try clear q15);(try clear hx15);(try clear c18);(try clear hcz12_0);(try clear hcz12_1);(try clear hcz16_0);(try clear hcz16_1);(try clear hcz17_0);(try clear hcz17_1);(try clear hcz6_0);(try clear hcz6_1);(try clear hcz7_0);(try clear hcz7_1);(try clear hfz12_0);(try clear hfz12_1);(try clear hfz16_0);(try clear hfz16_1);(try clear hfz17_0);(try clear hfz17_1);(try clear hfz6_0);(try clear hfz6_1);(try clear hfz7_0);(try clear hfz7_1);(try clear hx155_0);(try clear hx156_0);(try clear hx158_0);(try clear p1);(try clear p15);(try clear p155);(try clear p156);(try clear p158);(try clear p2);(try clear q1);(try clear q15);(try clear q155);(try clear q156);(try clear q158);obtain ⟨x6_4,rfl,HA,HK4,BK153,HB⟩ := hrel
            cases gk with
            | zero => exact absurd HA.out (by simp [spec_l18Good.l1])
            | succ k4 =>
             have H:=HA.out;clear HA;simp only [spec_l18Good.l1] at H
             by_cases c19 : x6_4 < ((rd_L1 l0_1 x4_2).length : Int)
             ·rw [if_pos c19] at H;have c19b0 : decide (x6_4 < ((rd_L1 l0_1 x4_2).length : Int)) = true:=decide_eq_true c19;clear c19
              by_cases c20 : 0 ≤ x6_4
              ·rw [if_pos c20] at H;have c20b0 : decide (0 ≤ x6_4) = true:=decide_eq_true c20;clear c20;replace H:=Option.bind_eq_some_iff.mp H;obtain ⟨t160,A210,H⟩ := H;replace H : (if t160 = true then (if x6_4 > 0 then (if 0 ≤ (wrap64 (x6_4 - 1)) then (if (wrap64 (x6_4 - 1)) < ((rd_L1 l0_1 x4_2).length : Int) then (if (rd (rd_L1 l0_1 x4_2) (wrap64 (x6_4 - 1))) ≥ (rd (rd_L1 l0_1 x4_2) x6_4) then (some false) else ((spec_l18Find.f k4 l0_0 l0_1 (rd (rd_L1 l0_1 x4_2) x6_4)).bind fun t164 => (if t164 = x4_2 then (spec_l18Good.l1 k4 x3_2 x4_2 (rd_L1 l0_1 x4_2) (wrap64 (x6_4 + 1)) l0_0 l0_1) else (some false)))) else (none)) else (none)) else ((spec_l18Find.f k4 l0_0 l0_1 (rd (rd_L1 l0_1 x4_2) x6_4)).bind fun t166 => (if t166 = x4_2 then (spec_l18Good.l1 k4 x3_2 x4_2 (rd_L1 l0_1 x4_2) (wrap64 (x6_4 + 1)) l0_0 l0_1) else (some false)))) else (some false)) = some r:=H;have A21:=am_ A210;clear A210
               by_cases c22 : t160 = true
               ·subst c22
                have H1 : (if x6_4 > 0 then (if 0 ≤ (wrap64 (x6_4 - 1)) then (if (wrap64 (x6_4 - 1)) < ((rd_L1 l0_1 x4_2).length : Int) then (if (rd (rd_L1 l0_1 x4_2) (wrap64 (x6_4 - 1))) ≥ (rd (rd_L1 l0_1 x4_2) x6_4) then (some false) else ((spec_l18Find.f k4 l0_0 l0_1 (rd (rd_L1 l0_1 x4_2) x6_4)).bind fun t164 => (if t164 = x4_2 then (spec_l18Good.l1 k4 x3_2 x4_2 (rd_L1 l0_1 x4_2) (wrap64 (x6_4 + 1)) l0_0 l0_1) else (some false)))) else (none)) else (none)) else ((spec_l18Find.f k4 l0_0 l0_1 (rd (rd_L1 l0_1 x4_2) x6_4)).bind fun t166 => (if t166 = x4_2 then (spec_l18Good.l1 k4 x3_2 x4_2 (rd_L1 l0_1 x4_2) (wrap64 (x6_4 + 1)) l0_0 l0_1) else (some false)))) = some r:=by rw [if_pos rfl] at H;exact H
                clear H;have H:=H1;clear H1
                by_cases c23 : x6_4 > 0
                ·rw [if_pos c23] at H;have c23b0 : decide (0 < x6_4) = true:=decide_eq_true c23;clear c23;obtain ⟨ji24,hji24⟩ : ∃ j_ : Int,(wrap64 (x6_4 - 1)) = j_:=⟨_,rfl⟩
                 replace H : (if 0 ≤ (ji24) then (if (ji24) < ((rd_L1 l0_1 x4_2).length : Int) then (if (rd (rd_L1 l0_1 x4_2) (ji24)) ≥ (rd (rd_L1 l0_1 x4_2) x6_4) then (some false) else ((spec_l18Find.f k4 l0_0 l0_1 (rd (rd_L1 l0_1 x4_2) x6_4)).bind fun t164 => (if t164 = x4_2 then (spec_l18Good.l1 k4 x3_2 x4_2 (rd_L1 l0_1 x4_2) (wrap64 (x6_4 + 1)) l0_0 l0_1) else (some false)))) else (none)) else (none)) = some r:=by first | (rw [hji24] at H;exact H) | (simp only [hji24] at H ⊢;exact H)
                 (try rw [hji24] at A21);have hji24w : (IntKind.i64.wrap (x6_4 - 1)) = ji24:=(i64_w _).trans hji24
                 by_cases c25 : 0 ≤ (ji24)
                 ·rw [if_pos c25] at H;have c25b0 : decide (0 ≤ (ji24)) = true:=decide_eq_true c25;clear c25
                  by_cases c26 : (ji24) < ((rd_L1 l0_1 x4_2).length : Int)
                  ·rw [if_pos c26] at H;have c26b0 : decide ((ji24) < ((rd_L1 l0_1 x4_2).length : Int)) = true:=decide_eq_true c26;clear c26
                   by_cases c27 : (rd (rd_L1 l0_1 x4_2) (ji24)) ≥ (rd (rd_L1 l0_1 x4_2) x6_4)
                   ·rw [if_pos c27] at H;have c27b0 : decide ((rd (rd_L1 l0_1 x4_2) x6_4) ≤ (rd (rd_L1 l0_1 x4_2) (ji24))) = true:=decide_eq_true c27;clear c27;obtain rfl:=Option.some.inj H
                    try go_wp2
                    have n0_:=am_ (blk_drew BK153.out);have n1_:=am_ (below_drew1 HB.out);clear BK153;clear HB;have BK153:=n0_;have HB:=n1_;clear n0_ n1_;have p159 : 0 ≤ (x6_4 : Int):=of_decide_eq_true (by first | (with_reducible assumption) | assumption);have q159 : x6_4 < ((rd_L1 l0_1 x4_2).length : Int):=of_decide_eq_true (by first | (with_reducible assumption) | assumption);obtain ⟨ad159,e159,hx159_0⟩ := Kd.at_int HR155_0.out x6_4 p159 q159;have hw159_0:=hx159_0;cases e159;replace hx159_0:=(HB.out.cell (World.block_lt_of_cell? w _ hx159_0)).trans hx159_0;replace p159:=eq_true p159;replace q159:=eq_true q159;have p161 : 0 ≤ ((ji24) : Int):=of_decide_eq_true (by first | (with_reducible assumption) | assumption);have q161 : (ji24) < ((rd_L1 l0_1 x4_2).length : Int):=of_decide_eq_true (by first | (with_reducible assumption) | assumption);obtain ⟨ad161,e161,hx161_0⟩ := Kd.at_int HR155_0.out (ji24) p161 q161;have hw161_0:=hx161_0;obtain rfl : ad159 = ad161:=(by injection e161);replace hx161_0:=(HB.out.cell (World.block_lt_of_cell? w _ hx161_0)).trans hx161_0;replace p161:=eq_true p161;replace q161:=eq_true q161;have p162 : 0 ≤ (x6_4 : Int):=of_decide_eq_true (by first | (with_reducible assumption) | assumption);have q162 : x6_4 < ((rd_L1 l0_1 x4_2).length : Int):=of_decide_eq_true (by first | (with_reducible assumption) | assumption);obtain ⟨ad162,e162,hx162_0⟩ := Kd.at_int HR155_0.out x6_4 p162 q162;have hw162_0:=hx162_0;obtain rfl : ad159 = ad162:=(by injection e162);replace hx162_0:=(HB.out.cell (World.block_lt_of_cell? w _ hx162_0)).trans hx162_0;replace p162:=eq_true p162;replace q162:=eq_true q162
                    refine start_ (n:=32) (S:=fun w' => w'.cell? (ad159.add (x6_4).toNat) = some (.int .i64 (rd (rd_L1 l0_1 x4_2) x6_4)) ∧ w'.cell? (ad159.add ((ji24)).toNat) = some (.int .i64 (rd (rd_L1 l0_1 x4_2) (ji24))) ∧ w'.cell? (ad159.add (x6_4).toNat) = some (.int .i64 (rd (rd_L1 l0_1 x4_2) x6_4))) (ds := []) #[false,false,false,false,false,false,false,false,false,false,false,false,false,false,false,false,false,false,false,false,false,false,false,false,false,false,false,false,false,false,false,false] (by kernel_rfl) rfl rfl ⟨((HB.out.cell (World.block_lt_of_cell? w _ hw159_0)).trans hw159_0),((HB.out.cell (World.block_lt_of_cell? w _ hw161_0)).trans hw161_0),((HB.out.cell (World.block_lt_of_cell? w _ hw162_0)).trans hw162_0)⟩ (fun hHeld => ?_);refine with_tabW spec_l18Good.tab13 spec_l18Good.bits13 (fun HT_ HW_ => ?_)
                    generalize wr.drew = w28 at BK153 HB hx159_0 hx161_0 hx162_0 hHeld ⊢;refine pure_ (i:=0) (N:=some 56) (v:=?_) (a':=?_) #[true,false,false,false,false,false,false,false,false,false,false,false,false,false,false,false,false,false,false,false,false,false,false,false,false,false,false,false,false,false,false,false] rfl rfl (any_of HT_.out (by kernel_rfl)) (fun _ _ _ h => h) (Or.inl ⟨by rfl, ?_⟩) ?_ ?_
                    rotate_left
                    ·intro w'
                     go_simp
                     with_reducible rfl
                    rotate_left
                    ·simp only [Act.put,sA_,s0_,s1_,i64_w,i32_w]
                     rfl
                    refine pure_ (i:=1) (N:=some 57) (v:=?_) (a':=?_) #[true,true,false,false,false,false,false,false,false,false,false,false,false,false,false,false,false,false,false,false,false,false,false,false,false,false,false,false,false,false,false,false] rfl rfl (any_of HT_.out (by kernel_rfl)) (fun _ _ _ h => h) (Or.inl ⟨by rfl, ?_⟩) ?_ ?_
                    rotate_left
                    ·intro w'
                     go_simp
                     with_reducible rfl
                    rotate_left
                    ·simp only [Act.put,sA_,s0_,s1_,i64_w,i32_w]
                     rfl
                    refine pure_ (i:=2) (N:=some 58) (v:=?_) (a':=?_) #[true,true,true,false,false,false,false,false,false,false,false,false,false,false,false,false,false,false,false,false,false,false,false,false,false,false,false,false,false,false,false,false] rfl rfl (any_of HT_.out (by kernel_rfl)) (fun _ _ _ h => h) (Or.inl ⟨by rfl, ?_⟩) ?_ ?_
                    rotate_left
                    ·intro w'
                     go_simp
                     with_reducible rfl
                    rotate_left
                    ·simp only [Act.put,sA_,s0_,s1_,i64_w,i32_w]
                     rfl
                    refine take_ (i:=3) (N:=some 59) (v:=?_) (a':=?_) #[true,true,true,true,false,false,false,false,false,false,false,false,false,false,false,false,false,false,false,false,false,false,false,false,false,false,false,false,false,false,false,false] rfl rfl (take_ofW HT_.out HW_.out (by kernel_rfl)) (fun _ _ _ h => h) (Or.inl ⟨by rfl, ?_⟩) hHeld ?_ ?_
                    rotate_left
                    ·rintro w' ⟨s0,s1,s2⟩
                     go_simp
                     with_reducible rfl
                    rotate_left
                    ·simp only [Act.put,sA_,s0_,s1_,i64_w,i32_w]
                     rfl
                    refine one_ (i:=4) (N:=some 60) #[true,true,true,true,true,false,false,false,false,false,false,false,false,false,false,false,false,false,false,false,false,false,false,false,false,false,false,false,false,false,false,false] rfl rfl (one_of HT_.out (by kernel_rfl)) (by decide) (fun K hK => ?_);refine goes_ Try.func48 (by kernel_rfl) rfl #[.int .i64 (rd (rd_L1 l0_1 x4_2) x6_4), .int .i64 1, .int .i64 99] (by rfl) rfl rfl (by (try simp only [List.map_toArray,List.map_cons,List.map_nil]);first | done | rfl | (simp only [List.length_drop,List.length_take];rfl)) ?_
                    with_reducible refine (spec_l1In.calls (rd (rd_L1 l0_1 x4_2) x6_4) 1 99 true _ A21.out).mono ?_
                    rintro e w' ⟨rfl,⟨nd,rfl⟩⟩;refine ⟨_,rfl, ?_⟩;refine hK.out _ _ ⟨((HB.out.cell (World.block_lt_of_cell? w _ hw159_0)).trans hw159_0),((HB.out.cell (World.block_lt_of_cell? w _ hw161_0)).trans hw161_0),((HB.out.cell (World.block_lt_of_cell? w _ hw162_0)).trans hw162_0)⟩ (fun hHeld => ?_);clear hK K;refine norm_ (a':=?_) ?_ ?_
                    rotate_left
                    ·show Act.put _ (some 60) _ = _
                     simp only [Act.put,sA_,s0_,s1_,i64_w,i32_w]
                     rfl
                    refine pure_ (i:=5) (N:=some 61) (v:=?_) (a':=?_) #[true,true,true,true,true,true,false,false,false,false,false,false,false,false,false,false,false,false,false,false,false,false,false,false,false,false,false,false,false,false,false,false] rfl rfl (any_of HT_.out (by kernel_rfl)) (fun _ _ _ h => h) (Or.inl ⟨by rfl, ?_⟩) ?_ ?_
                    rotate_left
                    ·intro w'
                     go_simp
                     with_reducible rfl
                    rotate_left
                    ·simp only [Act.put,sA_,s0_,s1_,i64_w,i32_w]
                     rfl
                    refine pure_ (i:=6) (N:=some 62) (v:=?_) (a':=?_) #[true,true,true,true,true,true,true,false,false,false,false,false,false,false,false,false,false,false,false,false,false,false,false,false,false,false,false,false,false,false,false,false] rfl rfl (any_of HT_.out (by kernel_rfl)) (fun _ _ _ h => h) (Or.inl ⟨by rfl, ?_⟩) ?_ ?_
                    rotate_left
                    ·intro w'
                     go_simp
                     with_reducible rfl
                    rotate_left
                    ·simp only [Act.put,sA_,s0_,s1_,i64_w,i32_w]
                     rfl
                    refine pure_ (i:=7) (N:=some 63) (v:=?_) (a':=?_) #[true,true,true,true,true,true,true,true,false,false,false,false,false,false,false,false,false,false,false,false,false,false,false,false,false,false,false,false,false,false,false,false] rfl rfl (any_of HT_.out (by kernel_rfl)) (fun _ _ _ h => h) (Or.inl ⟨by rfl, ?_⟩) ?_ ?_
                    rotate_left
                    ·intro w'
                     go_simp
                     with_reducible rfl
                    rotate_left
                    ·simp only [Act.put,sA_,s0_,s1_,i64_w,i32_w]
                     rfl
                    refine pure_ (i:=8) (N:=some 64) (v:=?_) (a':=?_) #[true,true,true,true,true,true,true,true,true,false,false,false,false,false,false,false,false,false,false,false,false,false,false,false,false,false,false,false,false,false,false,false] rfl rfl (any_of HT_.out (by kernel_rfl)) (fun _ _ _ h => h) (Or.inl ⟨by rfl, ?_⟩) ?_ ?_
                    rotate_left
                    ·intro w'
                     go_simp
                     with_reducible rfl
                    rotate_left
                    ·simp only [Act.put,sA_,s0_,s1_,i64_w,i32_w]
                     rfl
                    refine pure_ (i:=9) (N:=some 65) (v:=?_) (a':=?_) #[true,true,true,true,true,true,true,true,true,true,false,false,false,false,false,false,false,false,false,false,false,false,false,false,false,false,false,false,false,false,false,false] rfl rfl (any_of HT_.out (by kernel_rfl)) (fun _ _ _ h => h) (Or.inl ⟨by rfl, ?_⟩) ?_ ?_
                    rotate_left
                    ·intro w'
                     go_simp
                     with_reducible rfl
                    rotate_left
                    ·simp only [Act.put,sA_,s0_,s1_,i64_w,i32_w]
                     rfl
                    refine pure_ (i:=10) (N:=some 66) (v:=?_) (a':=?_) #[true,true,true,true,true,true,true,true,true,true,true,false,false,false,false,false,false,false,false,false,false,false,false,false,false,false,false,false,false,false,false,false] rfl rfl (any_of HT_.out (by kernel_rfl)) (fun _ _ _ h => h) (Or.inl ⟨by rfl, ?_⟩) ?_ ?_
                    rotate_left
                    ·intro w'
                     go_simp
                     with_reducible rfl
                    rotate_left
                    ·simp only [Act.put,sA_,s0_,s1_,i64_w,i32_w]
                     rfl
                    refine pure_ (i:=11) (N:=some 67) (v:=?_) (a':=?_) #[true,true,true,true,true,true,true,true,true,true,true,true,false,false,false,false,false,false,false,false,false,false,false,false,false,false,false,false,false,false,false,false] rfl rfl (any_of HT_.out (by kernel_rfl)) (fun _ _ _ h => h) (Or.inl ⟨by rfl, ?_⟩) ?_ ?_
                    rotate_left
                    ·intro w'
                     go_simp
                     with_reducible rfl
                    rotate_left
                    ·simp only [Act.put,sA_,s0_,s1_,i64_w,i32_w]
                     rfl
                    refine pure_ (i:=12) (N:=some 68) (v:=?_) (a':=?_) #[true,true,true,true,true,true,true,true,true,true,true,true,true,false,false,false,false,false,false,false,false,false,false,false,false,false,false,false,false,false,false,false] rfl rfl (any_of HT_.out (by kernel_rfl)) (fun _ _ _ h => h) (Or.inl ⟨by rfl, ?_⟩) ?_ ?_
                    rotate_left
                    ·intro w'
                     go_simp
                     with_reducible rfl
                    rotate_left
                    ·simp only [Act.put,sA_,s0_,s1_,i64_w,i32_w]
                     rfl
                    refine pure_ (i:=13) (N:=some 69) (v:=?_) (a':=?_) #[true,true,true,true,true,true,true,true,true,true,true,true,true,true,false,false,false,false,false,false,false,false,false,false,false,false,false,false,false,false,false,false] rfl rfl (any_of HT_.out (by kernel_rfl)) (fun _ _ _ h => h) (Or.inl ⟨by rfl, ?_⟩) ?_ ?_
                    rotate_left
                    ·intro w'
                     go_simp
                     with_reducible rfl
                    rotate_left
                    ·simp only [Act.put,sA_,s0_,s1_,i64_w,i32_w]
                     rfl
                    refine pure_ (i:=15) (N:=some 71) (v:=?_) (a':=?_) #[true,true,true,true,true,true,true,true,true,true,true,true,true,true,false,true,false,false,false,false,false,false,false,false,false,false,false,false,false,false,false,false] rfl rfl (any_of HT_.out (by kernel_rfl)) (fun _ _ _ h => h) (Or.inl ⟨by rfl, ?_⟩) ?_ ?_
                    rotate_left
                    ·intro w'
                     go_simp
                     with_reducible rfl
                    rotate_left
                    ·simp only [Act.put,sA_,s0_,s1_,i64_w,i32_w]
                     rfl
                    refine pure_ (i:=16) (N:=some 72) (v:=?_) (a':=?_) #[true,true,true,true,true,true,true,true,true,true,true,true,true,true,false,true,true,false,false,false,false,false,false,false,false,false,false,false,false,false,false,false] rfl rfl (any_of HT_.out (by kernel_rfl)) (fun _ _ _ h => h) (Or.inl ⟨by rfl, ?_⟩) ?_ ?_
                    rotate_left
                    ·intro w'
                     go_simp
                     with_reducible rfl
                    rotate_left
                    ·simp only [Act.put,sA_,s0_,s1_,i64_w,i32_w]
                     rfl
                    refine pure_ (i:=17) (N:=some 73) (v:=?_) (a':=?_) #[true,true,true,true,true,true,true,true,true,true,true,true,true,true,false,true,true,true,false,false,false,false,false,false,false,false,false,false,false,false,false,false] rfl rfl (any_of HT_.out (by kernel_rfl)) (fun _ _ _ h => h) (Or.inl ⟨by rfl, ?_⟩) ?_ ?_
                    rotate_left
                    ·intro w'
                     go_simp
                     with_reducible rfl
                    rotate_left
                    ·simp only [Act.put,sA_,s0_,s1_,i64_w,i32_w]
                     rfl
                    refine take_ (i:=14) (N:=some 70) (v:=?_) (a':=?_) #[true,true,true,true,true,true,true,true,true,true,true,true,true,true,true,true,true,true,false,false,false,false,false,false,false,false,false,false,false,false,false,false] rfl rfl (take_ofW HT_.out HW_.out (by kernel_rfl)) (fun _ _ _ h => h) (Or.inl ⟨by rfl, ?_⟩) hHeld ?_ ?_
                    rotate_left
                    ·rintro w' ⟨s0,s1,s2⟩
                     go_simp
                     with_reducible rfl
                    rotate_left
                    ·simp only [Act.put,sA_,s0_,s1_,i64_w,i32_w]
                     rfl
                    refine take_ (i:=18) (N:=some 74) (v:=?_) (a':=?_) #[true,true,true,true,true,true,true,true,true,true,true,true,true,true,true,true,true,true,true,false,false,false,false,false,false,false,false,false,false,false,false,false] rfl rfl (take_ofW HT_.out HW_.out (by kernel_rfl)) (fun _ _ _ h => h) (Or.inl ⟨by rfl, ?_⟩) hHeld ?_ ?_
                    rotate_left
                    ·rintro w' ⟨s0,s1,s2⟩
                     go_simp
                     with_reducible rfl
                    rotate_left
                    ·simp only [Act.put,sA_,s0_,s1_,i64_w,i32_w]
                     rfl
                    refine pure_ (i:=19) (N:=some 75) (v:=?_) (a':=?_) #[true,true,true,true,true,true,true,true,true,true,true,true,true,true,true,true,true,true,true,true,false,false,false,false,false,false,false,false,false,false,false,false] rfl rfl (any_of HT_.out (by kernel_rfl)) (fun _ _ _ h => h) (Or.inl ⟨by rfl, ?_⟩) ?_ ?_
                    rotate_left
                    ·intro w'
                     go_simp
                     with_reducible rfl
                    rotate_left
                    ·simp only [Act.put,sA_,s0_,s1_,i64_w,i32_w]
                     rfl
                    refine pure_ (i:=20) (N:=some 76) (v:=?_) (a':=?_) #[true,true,true,true,true,true,true,true,true,true,true,true,true,true,true,true,true,true,true,true,true,false,false,false,false,false,false,false,false,false,false,false] rfl rfl (any_of HT_.out (by kernel_rfl)) (fun _ _ _ h => h) (Or.inl ⟨by rfl, ?_⟩) ?_ ?_
                    rotate_left
                    ·intro w'
                     go_simp
                     with_reducible rfl
                    rotate_left
                    ·simp only [Act.put,sA_,s0_,s1_,i64_w,i32_w]
                     rfl
                    refine pure_ (i:=21) (N:=some 77) (v:=?_) (a':=?_) #[true,true,true,true,true,true,true,true,true,true,true,true,true,true,true,true,true,true,true,true,true,true,false,false,false,false,false,false,false,false,false,false] rfl rfl (any_of HT_.out (by kernel_rfl)) (fun _ _ _ h => h) (Or.inl ⟨by rfl, ?_⟩) ?_ ?_
                    rotate_left
                    ·intro w'
                     go_simp
                     with_reducible rfl
                    rotate_left
                    ·simp only [Act.put,sA_,s0_,s1_,i64_w,i32_w]
                     rfl
                    refine pure_ (i:=22) (N:=some 78) (v:=?_) (a':=?_) #[true,true,true,true,true,true,true,true,true,true,true,true,true,true,true,true,true,true,true,true,true,true,true,false,false,false,false,false,false,false,false,false] rfl rfl (any_of HT_.out (by kernel_rfl)) (fun _ _ _ h => h) (Or.inl ⟨by rfl, ?_⟩) ?_ ?_
                    rotate_left
                    ·intro w'
                     go_simp
                     with_reducible rfl
                    rotate_left
                    ·simp only [Act.put,sA_,s0_,s1_,i64_w,i32_w]
                     rfl
                    refine pure_ (i:=23) (N:=some 79) (v:=undef) (a':=?_) #[true,true,true,true,true,true,true,true,true,true,true,true,true,true,true,true,true,true,true,true,true,true,true,true,false,false,false,false,false,false,false,false] rfl rfl (any_of HT_.out (by kernel_rfl)) (fun _ _ _ h => h) (Or.inr ⟨by rfl,rfl⟩) ?_ ?_
                    rotate_left
                    ·simp only [Act.put,sA_,s0_,s1_,i64_w,i32_w]
                     rfl
                    refine pure_ (i:=24) (N:=some 80) (v:=undef) (a':=?_) #[true,true,true,true,true,true,true,true,true,true,true,true,true,true,true,true,true,true,true,true,true,true,true,true,true,false,false,false,false,false,false,false] rfl rfl (any_of HT_.out (by kernel_rfl)) (fun _ _ _ h => h) (Or.inr ⟨by rfl,rfl⟩) ?_ ?_
                    rotate_left
                    ·simp only [Act.put,sA_,s0_,s1_,i64_w,i32_w]
                     rfl
                    refine pure_ (i:=25) (N:=some 81) (v:=undef) (a':=?_) #[true,true,true,true,true,true,true,true,true,true,true,true,true,true,true,true,true,true,true,true,true,true,true,true,true,true,false,false,false,false,false,false] rfl rfl (any_of HT_.out (by kernel_rfl)) (fun _ _ _ h => h) (Or.inr ⟨by rfl,rfl⟩) ?_ ?_
                    rotate_left
                    ·simp only [Act.put,sA_,s0_,s1_,i64_w,i32_w]
                     rfl
                    refine pure_ (i:=26) (N:=some 82) (v:=undef) (a':=?_) #[true,true,true,true,true,true,true,true,true,true,true,true,true,true,true,true,true,true,true,true,true,true,true,true,true,true,true,false,false,false,false,false] rfl rfl (any_of HT_.out (by kernel_rfl)) (fun _ _ _ h => h) (Or.inr ⟨by rfl,rfl⟩) ?_ ?_
                    rotate_left
                    ·simp only [Act.put,sA_,s0_,s1_,i64_w,i32_w]
                     rfl
                    refine pure_ (i:=27) (N:=some 83) (v:=undef) (a':=?_) #[true,true,true,true,true,true,true,true,true,true,true,true,true,true,true,true,true,true,true,true,true,true,true,true,true,true,true,true,false,false,false,false] rfl rfl (any_of HT_.out (by kernel_rfl)) (fun _ _ _ h => h) (Or.inr ⟨by rfl,rfl⟩) ?_ ?_
                    rotate_left
                    ·simp only [Act.put,sA_,s0_,s1_,i64_w,i32_w]
                     rfl
                    refine pure_ (i:=28) (N:=some 84) (v:=undef) (a':=?_) #[true,true,true,true,true,true,true,true,true,true,true,true,true,true,true,true,true,true,true,true,true,true,true,true,true,true,true,true,true,false,false,false] rfl rfl (any_of HT_.out (by kernel_rfl)) (fun _ _ _ h => h) (Or.inr ⟨by rfl,rfl⟩) ?_ ?_
                    rotate_left
                    ·simp only [Act.put,sA_,s0_,s1_,i64_w,i32_w]
                     rfl
                    refine pure_ (i:=29) (N:=some 85) (v:=undef) (a':=?_) #[true,true,true,true,true,true,true,true,true,true,true,true,true,true,true,true,true,true,true,true,true,true,true,true,true,true,true,true,true,true,false,false] rfl rfl (any_of HT_.out (by kernel_rfl)) (fun _ _ _ h => h) (Or.inr ⟨by rfl,rfl⟩) ?_ ?_
                    rotate_left
                    ·simp only [Act.put,sA_,s0_,s1_,i64_w,i32_w]
                     rfl
                    refine pure_ (i:=30) (N:=some 86) (v:=undef) (a':=?_) #[true,true,true,true,true,true,true,true,true,true,true,true,true,true,true,true,true,true,true,true,true,true,true,true,true,true,true,true,true,true,true,false] rfl rfl (any_of HT_.out (by kernel_rfl)) (fun _ _ _ h => h) (Or.inr ⟨by rfl,rfl⟩) ?_ ?_
                    rotate_left
                    ·simp only [Act.put,sA_,s0_,s1_,i64_w,i32_w]
                     rfl
                    refine pure_ (i:=31) (N:=some 87) (v:=?_) (a':=?_) #[true,true,true,true,true,true,true,true,true,true,true,true,true,true,true,true,true,true,true,true,true,true,true,true,true,true,true,true,true,true,true,true] rfl rfl (any_of HT_.out (by kernel_rfl)) (fun _ _ _ h => h) (Or.inl ⟨by rfl, ?_⟩) ?_ ?_
                    rotate_left
                    ·intro w'
                     go_simp
                     with_reducible rfl
                    rotate_left
                    ·simp only [Act.put,sA_,s0_,s1_,i64_w,i32_w]
                     rfl
                    refine done_ (done_of HT_.out (by kernel_rfl)) ?_
                    try go_wp2
                    go_ret
                    exact ⟨by first | rfl | (simp [errW_none,errW_some] <;> rfl) | (simp only [← hji24];first | rfl | (simp [errW_none,errW_some] <;> rfl)) | (simp [*,errW_none,errW_some] <;> rfl),by repeat (first | (with_reducible first | exact HB.out | apply below_alloc | apply pw_below_drewN | apply below_drew1 | refine below_set ?_ GE153.out) | exact HB.out)⟩
                   ·rw [if_neg c27] at H;have c27b0 : decide ((rd (rd_L1 l0_1 x4_2) x6_4) ≤ (rd (rd_L1 l0_1 x4_2) (ji24))) = false:=decide_eq_false c27;clear c27;replace H:=Option.bind_eq_some_iff.mp H;obtain ⟨t164,A290,H⟩ := H;replace H : (if t164 = x4_2 then (spec_l18Good.l1 k4 x3_2 x4_2 (rd_L1 l0_1 x4_2) (wrap64 (x6_4 + 1)) l0_0 l0_1) else (some false)) = some r:=H;have A29:=am_ A290;clear A290
                    by_cases c30 : t164 = x4_2
                    ·rw [if_pos c30] at H;have c30b0 : (t164 == x4_2) = true:=beq_iff_eq.mpr c30;have c30b1 : (t164 != x4_2) = false:=bne_eq_false_iff_eq.mpr c30;clear c30;have H':=am_ H;clear H
                     try go_wp2
                     have n0_:=am_ (blk_drew BK153.out);have n1_:=am_ (below_drew1 HB.out);clear BK153;clear HB;have BK153:=n0_;have HB:=n1_;clear n0_ n1_;have p159 : 0 ≤ (x6_4 : Int):=of_decide_eq_true (by first | (with_reducible assumption) | assumption);have q159 : x6_4 < ((rd_L1 l0_1 x4_2).length : Int):=of_decide_eq_true (by first | (with_reducible assumption) | assumption);obtain ⟨ad159,e159,hx159_0⟩ := Kd.at_int HR155_0.out x6_4 p159 q159;have hw159_0:=hx159_0;cases e159;replace hx159_0:=(HB.out.cell (World.block_lt_of_cell? w _ hx159_0)).trans hx159_0;replace p159:=eq_true p159;replace q159:=eq_true q159;have p161 : 0 ≤ ((ji24) : Int):=of_decide_eq_true (by first | (with_reducible assumption) | assumption);have q161 : (ji24) < ((rd_L1 l0_1 x4_2).length : Int):=of_decide_eq_true (by first | (with_reducible assumption) | assumption);obtain ⟨ad161,e161,hx161_0⟩ := Kd.at_int HR155_0.out (ji24) p161 q161;have hw161_0:=hx161_0;obtain rfl : ad159 = ad161:=(by injection e161);replace hx161_0:=(HB.out.cell (World.block_lt_of_cell? w _ hx161_0)).trans hx161_0;replace p161:=eq_true p161;replace q161:=eq_true q161;have p162 : 0 ≤ (x6_4 : Int):=of_decide_eq_true (by first | (with_reducible assumption) | assumption);have q162 : x6_4 < ((rd_L1 l0_1 x4_2).length : Int):=of_decide_eq_true (by first | (with_reducible assumption) | assumption);obtain ⟨ad162,e162,hx162_0⟩ := Kd.at_int HR155_0.out x6_4 p162 q162;have hw162_0:=hx162_0;obtain rfl : ad159 = ad162:=(by injection e162);replace hx162_0:=(HB.out.cell (World.block_lt_of_cell? w _ hx162_0)).trans hx162_0;replace p162:=eq_true p162;replace q162:=eq_true q162;have p163 : 0 ≤ (x6_4 : Int):=of_decide_eq_true (by first | (with_reducible assumption) | assumption);have q163 : x6_4 < ((rd_L1 l0_1 x4_2).length : Int):=of_decide_eq_true (by first | (with_reducible assumption) | assumption);obtain ⟨ad163,e163,hx163_0⟩ := Kd.at_int HR155_0.out x6_4 p163 q163;have hw163_0:=hx163_0;obtain rfl : ad159 = ad163:=(by injection e163);replace hx163_0:=(HB.out.cell (World.block_lt_of_cell? w _ hx163_0)).trans hx163_0;replace p163:=eq_true p163;replace q163:=eq_true q163
                     refine start_ (n:=32) (S:=fun w' => w'.cell? ⟨gb153,0,none⟩ = some (.slice A0_0 l0_0.length c0_0) ∧ w'.cell? ⟨gb153,1,none⟩ = some (.slice (some ad155) l0_1.length c0_1) ∧ w'.cell? (ad159.add (x6_4).toNat) = some (.int .i64 (rd (rd_L1 l0_1 x4_2) x6_4)) ∧ w'.cell? (ad159.add ((ji24)).toNat) = some (.int .i64 (rd (rd_L1 l0_1 x4_2) (ji24))) ∧ w'.cell? (ad159.add (x6_4).toNat) = some (.int .i64 (rd (rd_L1 l0_1 x4_2) x6_4)) ∧ w'.cell? (ad159.add (x6_4).toNat) = some (.int .i64 (rd (rd_L1 l0_1 x4_2) x6_4))) (ds := []) #[false,false,false,false,false,false,false,false,false,false,false,false,false,false,false,false,false,false,false,false,false,false,false,false,false,false,false,false,false,false,false,false] (by kernel_rfl) rfl rfl ⟨(blk_cell BK153.out 0).trans rfl,(blk_cell BK153.out 1).trans rfl,((HB.out.cell (World.block_lt_of_cell? w _ hw159_0)).trans hw159_0),((HB.out.cell (World.block_lt_of_cell? w _ hw161_0)).trans hw161_0),((HB.out.cell (World.block_lt_of_cell? w _ hw162_0)).trans hw162_0),((HB.out.cell (World.block_lt_of_cell? w _ hw163_0)).trans hw163_0)⟩ (fun hHeld => ?_);refine with_tabW spec_l18Good.tab13 spec_l18Good.bits13 (fun HT_ HW_ => ?_)
                     generalize wr.drew = w31 at BK153 HB hx159_0 hx161_0 hx162_0 hx163_0 hHeld ⊢;refine pure_ (i:=0) (N:=some 56) (v:=?_) (a':=?_) #[true,false,false,false,false,false,false,false,false,false,false,false,false,false,false,false,false,false,false,false,false,false,false,false,false,false,false,false,false,false,false,false] rfl rfl (any_of HT_.out (by kernel_rfl)) (fun _ _ _ h => h) (Or.inl ⟨by rfl, ?_⟩) ?_ ?_
                     rotate_left
                     ·intro w'
                      go_simp
                      with_reducible rfl
                     rotate_left
                     ·simp only [Act.put,sA_,s0_,s1_,i64_w,i32_w]
                      rfl
                     refine pure_ (i:=1) (N:=some 57) (v:=?_) (a':=?_) #[true,true,false,false,false,false,false,false,false,false,false,false,false,false,false,false,false,false,false,false,false,false,false,false,false,false,false,false,false,false,false,false] rfl rfl (any_of HT_.out (by kernel_rfl)) (fun _ _ _ h => h) (Or.inl ⟨by rfl, ?_⟩) ?_ ?_
                     rotate_left
                     ·intro w'
                      go_simp
                      with_reducible rfl
                     rotate_left
                     ·simp only [Act.put,sA_,s0_,s1_,i64_w,i32_w]
                      rfl
                     refine pure_ (i:=2) (N:=some 58) (v:=?_) (a':=?_) #[true,true,true,false,false,false,false,false,false,false,false,false,false,false,false,false,false,false,false,false,false,false,false,false,false,false,false,false,false,false,false,false] rfl rfl (any_of HT_.out (by kernel_rfl)) (fun _ _ _ h => h) (Or.inl ⟨by rfl, ?_⟩) ?_ ?_
                     rotate_left
                     ·intro w'
                      go_simp
                      with_reducible rfl
                     rotate_left
                     ·simp only [Act.put,sA_,s0_,s1_,i64_w,i32_w]
                      rfl
                     refine take_ (i:=3) (N:=some 59) (v:=?_) (a':=?_) #[true,true,true,true,false,false,false,false,false,false,false,false,false,false,false,false,false,false,false,false,false,false,false,false,false,false,false,false,false,false,false,false] rfl rfl (take_ofW HT_.out HW_.out (by kernel_rfl)) (fun _ _ _ h => h) (Or.inl ⟨by rfl, ?_⟩) hHeld ?_ ?_
                     rotate_left
                     ·rintro w' ⟨s0,s1,s2,s3,s4,s5⟩
                      go_simp
                      with_reducible rfl
                     rotate_left
                     ·simp only [Act.put,sA_,s0_,s1_,i64_w,i32_w]
                      rfl
                     refine one_ (i:=4) (N:=some 60) #[true,true,true,true,true,false,false,false,false,false,false,false,false,false,false,false,false,false,false,false,false,false,false,false,false,false,false,false,false,false,false,false] rfl rfl (one_of HT_.out (by kernel_rfl)) (by decide) (fun K hK => ?_);refine goes_ Try.func48 (by kernel_rfl) rfl #[.int .i64 (rd (rd_L1 l0_1 x4_2) x6_4), .int .i64 1, .int .i64 99] (by rfl) rfl rfl (by (try simp only [List.map_toArray,List.map_cons,List.map_nil]);first | done | rfl | (simp only [List.length_drop,List.length_take];rfl)) ?_
                     with_reducible refine (spec_l1In.calls (rd (rd_L1 l0_1 x4_2) x6_4) 1 99 true _ A21.out).mono ?_
                     rintro e w' ⟨rfl,⟨nd,rfl⟩⟩;refine ⟨_,rfl, ?_⟩;refine hK.out _ _ ⟨(blk_cell BK153.out 0).trans rfl,(blk_cell BK153.out 1).trans rfl,((HB.out.cell (World.block_lt_of_cell? w _ hw159_0)).trans hw159_0),((HB.out.cell (World.block_lt_of_cell? w _ hw161_0)).trans hw161_0),((HB.out.cell (World.block_lt_of_cell? w _ hw162_0)).trans hw162_0),((HB.out.cell (World.block_lt_of_cell? w _ hw163_0)).trans hw163_0)⟩ (fun hHeld => ?_);clear hK K;refine norm_ (a':=?_) ?_ ?_
                     rotate_left
                     ·show Act.put _ (some 60) _ = _
                      simp only [Act.put,sA_,s0_,s1_,i64_w,i32_w]
                      rfl
                     refine pure_ (i:=5) (N:=some 61) (v:=?_) (a':=?_) #[true,true,true,true,true,true,false,false,false,false,false,false,false,false,false,false,false,false,false,false,false,false,false,false,false,false,false,false,false,false,false,false] rfl rfl (any_of HT_.out (by kernel_rfl)) (fun _ _ _ h => h) (Or.inl ⟨by rfl, ?_⟩) ?_ ?_
                     rotate_left
                     ·intro w'
                      go_simp
                      with_reducible rfl
                     rotate_left
                     ·simp only [Act.put,sA_,s0_,s1_,i64_w,i32_w]
                      rfl
                     refine pure_ (i:=6) (N:=some 62) (v:=?_) (a':=?_) #[true,true,true,true,true,true,true,false,false,false,false,false,false,false,false,false,false,false,false,false,false,false,false,false,false,false,false,false,false,false,false,false] rfl rfl (any_of HT_.out (by kernel_rfl)) (fun _ _ _ h => h) (Or.inl ⟨by rfl, ?_⟩) ?_ ?_
                     rotate_left
                     ·intro w'
                      go_simp
                      with_reducible rfl
                     rotate_left
                     ·simp only [Act.put,sA_,s0_,s1_,i64_w,i32_w]
                      rfl
                     refine pure_ (i:=7) (N:=some 63) (v:=?_) (a':=?_) #[true,true,true,true,true,true,true,true,false,false,false,false,false,false,false,false,false,false,false,false,false,false,false,false,false,false,false,false,false,false,false,false] rfl rfl (any_of HT_.out (by kernel_rfl)) (fun _ _ _ h => h) (Or.inl ⟨by rfl, ?_⟩) ?_ ?_
                     rotate_left
                     ·intro w'
                      go_simp
                      with_reducible rfl
                     rotate_left
                     ·simp only [Act.put,sA_,s0_,s1_,i64_w,i32_w]
                      rfl
                     refine pure_ (i:=8) (N:=some 64) (v:=?_) (a':=?_) #[true,true,true,true,true,true,true,true,true,false,false,false,false,false,false,false,false,false,false,false,false,false,false,false,false,false,false,false,false,false,false,false] rfl rfl (any_of HT_.out (by kernel_rfl)) (fun _ _ _ h => h) (Or.inl ⟨by rfl, ?_⟩) ?_ ?_
                     rotate_left
                     ·intro w'
                      go_simp
                      with_reducible rfl
                     rotate_left
                     ·simp only [Act.put,sA_,s0_,s1_,i64_w,i32_w]
                      rfl
                     refine pure_ (i:=9) (N:=some 65) (v:=?_) (a':=?_) #[true,true,true,true,true,true,true,true,true,true,false,false,false,false,false,false,false,false,false,false,false,false,false,false,false,false,false,false,false,false,false,false] rfl rfl (any_of HT_.out (by kernel_rfl)) (fun _ _ _ h => h) (Or.inl ⟨by rfl, ?_⟩) ?_ ?_
                     rotate_left
                     ·intro w'
                      go_simp
                      with_reducible rfl
                     rotate_left
                     ·simp only [Act.put,sA_,s0_,s1_,i64_w,i32_w]
                      rfl
                     refine pure_ (i:=10) (N:=some 66) (v:=?_) (a':=?_) #[true,true,true,true,true,true,true,true,true,true,true,false,false,false,false,false,false,false,false,false,false,false,false,false,false,false,false,false,false,false,false,false] rfl rfl (any_of HT_.out (by kernel_rfl)) (fun _ _ _ h => h) (Or.inl ⟨by rfl, ?_⟩) ?_ ?_
                     rotate_left
                     ·intro w'
                      go_simp
                      with_reducible rfl
                     rotate_left
                     ·simp only [Act.put,sA_,s0_,s1_,i64_w,i32_w]
                      rfl
                     refine pure_ (i:=11) (N:=some 67) (v:=?_) (a':=?_) #[true,true,true,true,true,true,true,true,true,true,true,true,false,false,false,false,false,false,false,false,false,false,false,false,false,false,false,false,false,false,false,false] rfl rfl (any_of HT_.out (by kernel_rfl)) (fun _ _ _ h => h) (Or.inl ⟨by rfl, ?_⟩) ?_ ?_
                     rotate_left
                     ·intro w'
                      go_simp
                      with_reducible rfl
                     rotate_left
                     ·simp only [Act.put,sA_,s0_,s1_,i64_w,i32_w]
                      rfl
                     refine pure_ (i:=12) (N:=some 68) (v:=?_) (a':=?_) #[true,true,true,true,true,true,true,true,true,true,true,true,true,false,false,false,false,false,false,false,false,false,false,false,false,false,false,false,false,false,false,false] rfl rfl (any_of HT_.out (by kernel_rfl)) (fun _ _ _ h => h) (Or.inl ⟨by rfl, ?_⟩) ?_ ?_
                     rotate_left
                     ·intro w'
                      go_simp
                      with_reducible rfl
                     rotate_left
                     ·simp only [Act.put,sA_,s0_,s1_,i64_w,i32_w]
                      rfl
                     refine pure_ (i:=13) (N:=some 69) (v:=?_) (a':=?_) #[true,true,true,true,true,true,true,true,true,true,true,true,true,true,false,false,false,false,false,false,false,false,false,false,false,false,false,false,false,false,false,false] rfl rfl (any_of HT_.out (by kernel_rfl)) (fun _ _ _ h => h) (Or.inl ⟨by rfl, ?_⟩) ?_ ?_
                     rotate_left
                     ·intro w'
                      go_simp
                      with_reducible rfl
                     rotate_left
                     ·simp only [Act.put,sA_,s0_,s1_,i64_w,i32_w]
                      rfl
                     refine pure_ (i:=15) (N:=some 71) (v:=?_) (a':=?_) #[true,true,true,true,true,true,true,true,true,true,true,true,true,true,false,true,false,false,false,false,false,false,false,false,false,false,false,false,false,false,false,false] rfl rfl (any_of HT_.out (by kernel_rfl)) (fun _ _ _ h => h) (Or.inl ⟨by rfl, ?_⟩) ?_ ?_
                     rotate_left
                     ·intro w'
                      go_simp
                      with_reducible rfl
                     rotate_left
                     ·simp only [Act.put,sA_,s0_,s1_,i64_w,i32_w]
                      rfl
                     refine pure_ (i:=16) (N:=some 72) (v:=?_) (a':=?_) #[true,true,true,true,true,true,true,true,true,true,true,true,true,true,false,true,true,false,false,false,false,false,false,false,false,false,false,false,false,false,false,false] rfl rfl (any_of HT_.out (by kernel_rfl)) (fun _ _ _ h => h) (Or.inl ⟨by rfl, ?_⟩) ?_ ?_
                     rotate_left
                     ·intro w'
                      go_simp
                      with_reducible rfl
                     rotate_left
                     ·simp only [Act.put,sA_,s0_,s1_,i64_w,i32_w]
                      rfl
                     refine pure_ (i:=17) (N:=some 73) (v:=?_) (a':=?_) #[true,true,true,true,true,true,true,true,true,true,true,true,true,true,false,true,true,true,false,false,false,false,false,false,false,false,false,false,false,false,false,false] rfl rfl (any_of HT_.out (by kernel_rfl)) (fun _ _ _ h => h) (Or.inl ⟨by rfl, ?_⟩) ?_ ?_
                     rotate_left
                     ·intro w'
                      go_simp
                      with_reducible rfl
                     rotate_left
                     ·simp only [Act.put,sA_,s0_,s1_,i64_w,i32_w]
                      rfl
                     refine take_ (i:=14) (N:=some 70) (v:=?_) (a':=?_) #[true,true,true,true,true,true,true,true,true,true,true,true,true,true,true,true,true,true,false,false,false,false,false,false,false,false,false,false,false,false,false,false] rfl rfl (take_ofW HT_.out HW_.out (by kernel_rfl)) (fun _ _ _ h => h) (Or.inl ⟨by rfl, ?_⟩) hHeld ?_ ?_
                     rotate_left
                     ·rintro w' ⟨s0,s1,s2,s3,s4,s5⟩
                      go_simp
                      with_reducible rfl
                     rotate_left
                     ·simp only [Act.put,sA_,s0_,s1_,i64_w,i32_w]
                      rfl
                     refine take_ (i:=18) (N:=some 74) (v:=?_) (a':=?_) #[true,true,true,true,true,true,true,true,true,true,true,true,true,true,true,true,true,true,true,false,false,false,false,false,false,false,false,false,false,false,false,false] rfl rfl (take_ofW HT_.out HW_.out (by kernel_rfl)) (fun _ _ _ h => h) (Or.inl ⟨by rfl, ?_⟩) hHeld ?_ ?_
                     rotate_left
                     ·rintro w' ⟨s0,s1,s2,s3,s4,s5⟩
                      go_simp
                      with_reducible rfl
                     rotate_left
                     ·simp only [Act.put,sA_,s0_,s1_,i64_w,i32_w]
                      rfl
                     refine pure_ (i:=19) (N:=some 75) (v:=?_) (a':=?_) #[true,true,true,true,true,true,true,true,true,true,true,true,true,true,true,true,true,true,true,true,false,false,false,false,false,false,false,false,false,false,false,false] rfl rfl (any_of HT_.out (by kernel_rfl)) (fun _ _ _ h => h) (Or.inl ⟨by rfl, ?_⟩) ?_ ?_
                     rotate_left
                     ·intro w'
                      go_simp
                      with_reducible rfl
                     rotate_left
                     ·simp only [Act.put,sA_,s0_,s1_,i64_w,i32_w]
                      rfl
                     refine pure_ (i:=20) (N:=some 76) (v:=?_) (a':=?_) #[true,true,true,true,true,true,true,true,true,true,true,true,true,true,true,true,true,true,true,true,true,false,false,false,false,false,false,false,false,false,false,false] rfl rfl (any_of HT_.out (by kernel_rfl)) (fun _ _ _ h => h) (Or.inl ⟨by rfl, ?_⟩) ?_ ?_
                     rotate_left
                     ·intro w'
                      go_simp
                      with_reducible rfl
                     rotate_left
                     ·simp only [Act.put,sA_,s0_,s1_,i64_w,i32_w]
                      rfl
                     refine pure_ (i:=21) (N:=some 77) (v:=?_) (a':=?_) #[true,true,true,true,true,true,true,true,true,true,true,true,true,true,true,true,true,true,true,true,true,true,false,false,false,false,false,false,false,false,false,false] rfl rfl (any_of HT_.out (by kernel_rfl)) (fun _ _ _ h => h) (Or.inl ⟨by rfl, ?_⟩) ?_ ?_
                     rotate_left
                     ·intro w'
                      go_simp
                      with_reducible rfl
                     rotate_left
                     ·simp only [Act.put,sA_,s0_,s1_,i64_w,i32_w]
                      rfl
                     refine pure_ (i:=22) (N:=some 78) (v:=?_) (a':=?_) #[true,true,true,true,true,true,true,true,true,true,true,true,true,true,true,true,true,true,true,true,true,true,true,false,false,false,false,false,false,false,false,false] rfl rfl (any_of HT_.out (by kernel_rfl)) (fun _ _ _ h => h) (Or.inl ⟨by rfl, ?_⟩) ?_ ?_
                     rotate_left
                     ·intro w'
                      go_simp
                      with_reducible rfl
                     rotate_left
                     ·simp only [Act.put,sA_,s0_,s1_,i64_w,i32_w]
                      rfl
                     refine pure_ (i:=24) (N:=some 80) (v:=?_) (a':=?_) #[true,true,true,true,true,true,true,true,true,true,true,true,true,true,true,true,true,true,true,true,true,true,true,false,true,false,false,false,false,false,false,false] rfl rfl (any_of HT_.out (by kernel_rfl)) (fun _ _ _ h => h) (Or.inl ⟨by rfl, ?_⟩) ?_ ?_
                     rotate_left
                     ·intro w'
                      go_simp
                      with_reducible rfl
                     rotate_left
                     ·simp only [Act.put,sA_,s0_,s1_,i64_w,i32_w]
                      rfl
                     refine pure_ (i:=25) (N:=some 81) (v:=?_) (a':=?_) #[true,true,true,true,true,true,true,true,true,true,true,true,true,true,true,true,true,true,true,true,true,true,true,false,true,true,false,false,false,false,false,false] rfl rfl (any_of HT_.out (by kernel_rfl)) (fun _ _ _ h => h) (Or.inl ⟨by rfl, ?_⟩) ?_ ?_
                     rotate_left
                     ·intro w'
                      go_simp
                      with_reducible rfl
                     rotate_left
                     ·simp only [Act.put,sA_,s0_,s1_,i64_w,i32_w]
                      rfl
                     refine pure_ (i:=26) (N:=some 82) (v:=?_) (a':=?_) #[true,true,true,true,true,true,true,true,true,true,true,true,true,true,true,true,true,true,true,true,true,true,true,false,true,true,true,false,false,false,false,false] rfl rfl (any_of HT_.out (by kernel_rfl)) (fun _ _ _ h => h) (Or.inl ⟨by rfl, ?_⟩) ?_ ?_
                     rotate_left
                     ·intro w'
                      go_simp
                      with_reducible rfl
                     rotate_left
                     ·simp only [Act.put,sA_,s0_,s1_,i64_w,i32_w]
                      rfl
                     refine pure_ (i:=29) (N:=some 85) (v:=?_) (a':=?_) #[true,true,true,true,true,true,true,true,true,true,true,true,true,true,true,true,true,true,true,true,true,true,true,false,true,true,true,false,false,true,false,false] rfl rfl (any_of HT_.out (by kernel_rfl)) (fun _ _ _ h => h) (Or.inl ⟨by rfl, ?_⟩) ?_ ?_
                     rotate_left
                     ·intro w'
                      go_simp
                      with_reducible rfl
                     rotate_left
                     ·simp only [Act.put,sA_,s0_,s1_,i64_w,i32_w]
                      rfl
                     refine take_ (i:=23) (N:=some 79) (v:=?_) (a':=?_) #[true,true,true,true,true,true,true,true,true,true,true,true,true,true,true,true,true,true,true,true,true,true,true,true,true,true,true,false,false,true,false,false] rfl rfl (take_ofW HT_.out HW_.out (by kernel_rfl)) (fun _ _ _ h => h) (Or.inl ⟨by rfl, ?_⟩) hHeld ?_ ?_
                     rotate_left
                     ·rintro w' ⟨s0,s1,s2,s3,s4,s5⟩
                      go_simp
                      with_reducible rfl
                     rotate_left
                     ·simp only [Act.put,sA_,s0_,s1_,i64_w,i32_w]
                      rfl
                     refine take_ (i:=27) (N:=some 83) (v:=?_) (a':=?_) #[true,true,true,true,true,true,true,true,true,true,true,true,true,true,true,true,true,true,true,true,true,true,true,true,true,true,true,true,false,true,false,false] rfl rfl (take_ofW HT_.out HW_.out (by kernel_rfl)) (fun _ _ _ h => h) (Or.inl ⟨by rfl, ?_⟩) hHeld ?_ ?_
                     rotate_left
                     ·rintro w' ⟨s0,s1,s2,s3,s4,s5⟩
                      go_simp
                      with_reducible rfl
                     rotate_left
                     ·simp only [Act.put,sA_,s0_,s1_,i64_w,i32_w]
                      rfl
                     refine one_ (i:=28) (N:=some 84) #[true,true,true,true,true,true,true,true,true,true,true,true,true,true,true,true,true,true,true,true,true,true,true,true,true,true,true,true,true,true,false,false] rfl rfl (one_of HT_.out (by kernel_rfl)) (by decide) (fun K hK => ?_);refine goes_ Try.func29 (by kernel_rfl) rfl #[.agg #[.slice A0_0 l0_0.length c0_0, .slice (some ad155) l0_1.length c0_1], .int .i64 (rd (rd_L1 l0_1 x4_2) x6_4)] (by rfl) rfl rfl (by (try simp only [List.map_toArray,List.map_cons,List.map_nil]);first | done | rfl | (simp only [List.length_drop,List.length_take];rfl)) ?_
                     with_reducible refine (spec_l18Find.calls k4 _ _ l0_0 _ _ l0_1 (rd (rd_L1 l0_1 x4_2) x6_4) t164 _ ?side1 ?side2 ?side3 ?side4 A29.out).mono ?_
                     (case side1 => repeat (first | exact (Kd.C_below HR0_0.out (by repeat (first | (with_reducible first | exact HB.out | apply below_alloc | apply pw_below_drewN | apply below_drew1 | refine below_set ?_ GE153.out) | exact HB.out))) | (with_reducible refine Kd.C_alloc ?_ _) | (with_reducible refine Kd.C_drewN ?_ _) | (with_reducible refine Kd.C_drew ?_)))
                     (case side2 => exact HC0_0.out)
                     (case side3 => repeat (first | exact (Kd.C_below HR0_1.out (by repeat (first | (with_reducible first | exact HB.out | apply below_alloc | apply pw_below_drewN | apply below_drew1 | refine below_set ?_ GE153.out) | exact HB.out))) | (with_reducible refine Kd.C_alloc ?_ _) | (with_reducible refine Kd.C_drewN ?_ _) | (with_reducible refine Kd.C_drew ?_)))
                     (case side4 => exact HC0_1.out)
                     rintro e w32 ⟨rfl,hb⟩;refine ⟨_,rfl, ?_⟩;have n0_:=am_ (blk_below (g:=gb153) (o := .cells #[.slice A0_0 l0_0.length c0_0, .slice (some ad155) l0_1.length c0_1] 27 (0,0)) (by (with_reducible repeat (first | refine blk_drewN ?_ _ | refine blk_drew ?_ | refine blk_alloc ?_ _));exact BK153.out) hb);have n1_:=am_ (below_step (by repeat (first | (with_reducible first | exact HB.out | apply below_alloc | apply pw_below_drewN | apply below_drew1 | refine below_set ?_ GE153.out) | exact HB.out)) hb);clear BK153;clear HB;have BK153:=n0_;have HB:=n1_;clear n0_ n1_;(try clear hb);(try clear hb2);(try clear hk);(try clear hi);refine hK.out _ _ ⟨(blk_cell BK153.out 0).trans rfl,(blk_cell BK153.out 1).trans rfl,((HB.out.cell (World.block_lt_of_cell? w _ hw159_0)).trans hw159_0),((HB.out.cell (World.block_lt_of_cell? w _ hw161_0)).trans hw161_0),((HB.out.cell (World.block_lt_of_cell? w _ hw162_0)).trans hw162_0),((HB.out.cell (World.block_lt_of_cell? w _ hw163_0)).trans hw163_0)⟩ (fun hHeld => ?_);clear hK K;refine norm_ (a':=?_) ?_ ?_
                     rotate_left
                     ·show Act.put _ (some 84) _ = _
                      simp only [Act.put,sA_,s0_,s1_,i64_w,i32_w]
                      rfl
                     refine pure_ (i:=30) (N:=some 86) (v:=?_) (a':=?_) #[true,true,true,true,true,true,true,true,true,true,true,true,true,true,true,true,true,true,true,true,true,true,true,true,true,true,true,true,true,true,true,false] rfl rfl (any_of HT_.out (by kernel_rfl)) (fun _ _ _ h => h) (Or.inl ⟨by rfl, ?_⟩) ?_ ?_
                     rotate_left
                     ·intro w'
                      go_simp
                      with_reducible rfl
                     rotate_left
                     ·simp only [Act.put,sA_,s0_,s1_,i64_w,i32_w]
                      rfl
                     refine pure_ (i:=31) (N:=some 87) (v:=?_) (a':=?_) #[true,true,true,true,true,true,true,true,true,true,true,true,true,true,true,true,true,true,true,true,true,true,true,true,true,true,true,true,true,true,true,true] rfl rfl (any_of HT_.out (by kernel_rfl)) (fun _ _ _ h => h) (Or.inl ⟨by rfl, ?_⟩) ?_ ?_
                     rotate_left
                     ·intro w'
                      go_simp
                      with_reducible rfl
                     rotate_left
                     ·simp only [Act.put,sA_,s0_,s1_,i64_w,i32_w]
                      rfl
                     refine done_ (done_of HT_.out (by kernel_rfl)) ?_
                     try go_wp2
                     go_roundg k4
                     case measure => have:=HJ1.out;have:=HK2.out;have:=HJ10.out;have:=HK4.out;omega
                     case rel => exact ⟨(wrap64 (x6_4 + 1)),(by first | rfl | (simp;done) | (simp [*];done)),H',⟨by have:=HJ1.out;have:=HK2.out;have:=HJ10.out;have:=HK4.out;omega⟩,⟨by (with_reducible repeat (first | refine blk_drewN ?_ _ | refine blk_drew ?_ | refine blk_alloc ?_ _));exact BK153.out⟩,⟨by repeat (first | (with_reducible first | exact HB.out | apply below_alloc | apply pw_below_drewN | apply below_drew1 | refine below_set ?_ GE153.out) | exact HB.out)⟩⟩
                    ·rw [if_neg c30] at H;have c30b0 : (t164 == x4_2) = false:=beq_eq_false_iff_ne.mpr c30;have c30b1 : (t164 != x4_2) = true:=bne_iff_ne.mpr c30;obtain rfl:=Option.some.inj H
                     try go_wp2
                     have n0_:=am_ (blk_drew BK153.out);have n1_:=am_ (below_drew1 HB.out);clear BK153;clear HB;have BK153:=n0_;have HB:=n1_;clear n0_ n1_;have p159 : 0 ≤ (x6_4 : Int):=of_decide_eq_true (by first | (with_reducible assumption) | assumption);have q159 : x6_4 < ((rd_L1 l0_1 x4_2).length : Int):=of_decide_eq_true (by first | (with_reducible assumption) | assumption);obtain ⟨ad159,e159,hx159_0⟩ := Kd.at_int HR155_0.out x6_4 p159 q159;have hw159_0:=hx159_0;cases e159;replace hx159_0:=(HB.out.cell (World.block_lt_of_cell? w _ hx159_0)).trans hx159_0;replace p159:=eq_true p159;replace q159:=eq_true q159;have p161 : 0 ≤ ((ji24) : Int):=of_decide_eq_true (by first | (with_reducible assumption) | assumption);have q161 : (ji24) < ((rd_L1 l0_1 x4_2).length : Int):=of_decide_eq_true (by first | (with_reducible assumption) | assumption);obtain ⟨ad161,e161,hx161_0⟩ := Kd.at_int HR155_0.out (ji24) p161 q161;have hw161_0:=hx161_0;obtain rfl : ad159 = ad161:=(by injection e161);replace hx161_0:=(HB.out.cell (World.block_lt_of_cell? w _ hx161_0)).trans hx161_0;replace p161:=eq_true p161;replace q161:=eq_true q161;have p162 : 0 ≤ (x6_4 : Int):=of_decide_eq_true (by first | (with_reducible assumption) | assumption);have q162 : x6_4 < ((rd_L1 l0_1 x4_2).length : Int):=of_decide_eq_true (by first | (with_reducible assumption) | assumption);obtain ⟨ad162,e162,hx162_0⟩ := Kd.at_int HR155_0.out x6_4 p162 q162;have hw162_0:=hx162_0;obtain rfl : ad159 = ad162:=(by injection e162);replace hx162_0:=(HB.out.cell (World.block_lt_of_cell? w _ hx162_0)).trans hx162_0;replace p162:=eq_true p162;replace q162:=eq_true q162;have p163 : 0 ≤ (x6_4 : Int):=of_decide_eq_true (by first | (with_reducible assumption) | assumption);have q163 : x6_4 < ((rd_L1 l0_1 x4_2).length : Int):=of_decide_eq_true (by first | (with_reducible assumption) | assumption);obtain ⟨ad163,e163,hx163_0⟩ := Kd.at_int HR155_0.out x6_4 p163 q163;have hw163_0:=hx163_0;obtain rfl : ad159 = ad163:=(by injection e163);replace hx163_0:=(HB.out.cell (World.block_lt_of_cell? w _ hx163_0)).trans hx163_0;replace p163:=eq_true p163;replace q163:=eq_true q163
                     refine start_ (n:=32) (S:=fun w' => w'.cell? ⟨gb153,0,none⟩ = some (.slice A0_0 l0_0.length c0_0) ∧ w'.cell? ⟨gb153,1,none⟩ = some (.slice (some ad155) l0_1.length c0_1) ∧ w'.cell? (ad159.add (x6_4).toNat) = some (.int .i64 (rd (rd_L1 l0_1 x4_2) x6_4)) ∧ w'.cell? (ad159.add ((ji24)).toNat) = some (.int .i64 (rd (rd_L1 l0_1 x4_2) (ji24))) ∧ w'.cell? (ad159.add (x6_4).toNat) = some (.int .i64 (rd (rd_L1 l0_1 x4_2) x6_4)) ∧ w'.cell? (ad159.add (x6_4).toNat) = some (.int .i64 (rd (rd_L1 l0_1 x4_2) x6_4))) (ds := []) #[false,false,false,false,false,false,false,false,false,false,false,false,false,false,false,false,false,false,false,false,false,false,false,false,false,false,false,false,false,false,false,false] (by kernel_rfl) rfl rfl ⟨(blk_cell BK153.out 0).trans rfl,(blk_cell BK153.out 1).trans rfl,((HB.out.cell (World.block_lt_of_cell? w _ hw159_0)).trans hw159_0),((HB.out.cell (World.block_lt_of_cell? w _ hw161_0)).trans hw161_0),((HB.out.cell (World.block_lt_of_cell? w _ hw162_0)).trans hw162_0),((HB.out.cell (World.block_lt_of_cell? w _ hw163_0)).trans hw163_0)⟩ (fun hHeld => ?_);refine with_tabW spec_l18Good.tab13 spec_l18Good.bits13 (fun HT_ HW_ => ?_)
                     generalize wr.drew = w33 at BK153 HB hx159_0 hx161_0 hx162_0 hx163_0 hHeld ⊢;refine pure_ (i:=0) (N:=some 56) (v:=?_) (a':=?_) #[true,false,false,false,false,false,false,false,false,false,false,false,false,false,false,false,false,false,false,false,false,false,false,false,false,false,false,false,false,false,false,false] rfl rfl (any_of HT_.out (by kernel_rfl)) (fun _ _ _ h => h) (Or.inl ⟨by rfl, ?_⟩) ?_ ?_
                     rotate_left
                     ·intro w'
                      go_simp
                      with_reducible rfl
                     rotate_left
                     ·simp only [Act.put,sA_,s0_,s1_,i64_w,i32_w]
                      rfl
                     refine pure_ (i:=1) (N:=some 57) (v:=?_) (a':=?_) #[true,true,false,false,false,false,false,false,false,false,false,false,false,false,false,false,false,false,false,false,false,false,false,false,false,false,false,false,false,false,false,false] rfl rfl (any_of HT_.out (by kernel_rfl)) (fun _ _ _ h => h) (Or.inl ⟨by rfl, ?_⟩) ?_ ?_
                     rotate_left
                     ·intro w'
                      go_simp
                      with_reducible rfl
                     rotate_left
                     ·simp only [Act.put,sA_,s0_,s1_,i64_w,i32_w]
                      rfl
                     refine pure_ (i:=2) (N:=some 58) (v:=?_) (a':=?_) #[true,true,true,false,false,false,false,false,false,false,false,false,false,false,false,false,false,false,false,false,false,false,false,false,false,false,false,false,false,false,false,false] rfl rfl (any_of HT_.out (by kernel_rfl)) (fun _ _ _ h => h) (Or.inl ⟨by rfl, ?_⟩) ?_ ?_
                     rotate_left
                     ·intro w'
                      go_simp
                      with_reducible rfl
                     rotate_left
                     ·simp only [Act.put,sA_,s0_,s1_,i64_w,i32_w]
                      rfl
                     refine take_ (i:=3) (N:=some 59) (v:=?_) (a':=?_) #[true,true,true,true,false,false,false,false,false,false,false,false,false,false,false,false,false,false,false,false,false,false,false,false,false,false,false,false,false,false,false,false] rfl rfl (take_ofW HT_.out HW_.out (by kernel_rfl)) (fun _ _ _ h => h) (Or.inl ⟨by rfl, ?_⟩) hHeld ?_ ?_
                     rotate_left
                     ·rintro w' ⟨s0,s1,s2,s3,s4,s5⟩
                      go_simp
                      with_reducible rfl
                     rotate_left
                     ·simp only [Act.put,sA_,s0_,s1_,i64_w,i32_w]
                      rfl
                     refine one_ (i:=4) (N:=some 60) #[true,true,true,true,true,false,false,false,false,false,false,false,false,false,false,false,false,false,false,false,false,false,false,false,false,false,false,false,false,false,false,false] rfl rfl (one_of HT_.out (by kernel_rfl)) (by decide) (fun K hK => ?_);refine goes_ Try.func48 (by kernel_rfl) rfl #[.int .i64 (rd (rd_L1 l0_1 x4_2) x6_4), .int .i64 1, .int .i64 99] (by rfl) rfl rfl (by (try simp only [List.map_toArray,List.map_cons,List.map_nil]);first | done | rfl | (simp only [List.length_drop,List.length_take];rfl)) ?_
                     with_reducible refine (spec_l1In.calls (rd (rd_L1 l0_1 x4_2) x6_4) 1 99 true _ A21.out).mono ?_
                     rintro e w' ⟨rfl,⟨nd,rfl⟩⟩;refine ⟨_,rfl, ?_⟩;refine hK.out _ _ ⟨(blk_cell BK153.out 0).trans rfl,(blk_cell BK153.out 1).trans rfl,((HB.out.cell (World.block_lt_of_cell? w _ hw159_0)).trans hw159_0),((HB.out.cell (World.block_lt_of_cell? w _ hw161_0)).trans hw161_0),((HB.out.cell (World.block_lt_of_cell? w _ hw162_0)).trans hw162_0),((HB.out.cell (World.block_lt_of_cell? w _ hw163_0)).trans hw163_0)⟩ (fun hHeld => ?_);clear hK K;refine norm_ (a':=?_) ?_ ?_
                     rotate_left
                     ·show Act.put _ (some 60) _ = _
                      simp only [Act.put,sA_,s0_,s1_,i64_w,i32_w]
                      rfl
                     refine pure_ (i:=5) (N:=some 61) (v:=?_) (a':=?_) #[true,true,true,true,true,true,false,false,false,false,false,false,false,false,false,false,false,false,false,false,false,false,false,false,false,false,false,false,false,false,false,false] rfl rfl (any_of HT_.out (by kernel_rfl)) (fun _ _ _ h => h) (Or.inl ⟨by rfl, ?_⟩) ?_ ?_
                     rotate_left
                     ·intro w'
                      go_simp
                      with_reducible rfl
                     rotate_left
                     ·simp only [Act.put,sA_,s0_,s1_,i64_w,i32_w]
                      rfl
                     refine pure_ (i:=6) (N:=some 62) (v:=?_) (a':=?_) #[true,true,true,true,true,true,true,false,false,false,false,false,false,false,false,false,false,false,false,false,false,false,false,false,false,false,false,false,false,false,false,false] rfl rfl (any_of HT_.out (by kernel_rfl)) (fun _ _ _ h => h) (Or.inl ⟨by rfl, ?_⟩) ?_ ?_
                     rotate_left
                     ·intro w'
                      go_simp
                      with_reducible rfl
                     rotate_left
                     ·simp only [Act.put,sA_,s0_,s1_,i64_w,i32_w]
                      rfl
                     refine pure_ (i:=7) (N:=some 63) (v:=?_) (a':=?_) #[true,true,true,true,true,true,true,true,false,false,false,false,false,false,false,false,false,false,false,false,false,false,false,false,false,false,false,false,false,false,false,false] rfl rfl (any_of HT_.out (by kernel_rfl)) (fun _ _ _ h => h) (Or.inl ⟨by rfl, ?_⟩) ?_ ?_
                     rotate_left
                     ·intro w'
                      go_simp
                      with_reducible rfl
                     rotate_left
                     ·simp only [Act.put,sA_,s0_,s1_,i64_w,i32_w]
                      rfl
                     refine pure_ (i:=8) (N:=some 64) (v:=?_) (a':=?_) #[true,true,true,true,true,true,true,true,true,false,false,false,false,false,false,false,false,false,false,false,false,false,false,false,false,false,false,false,false,false,false,false] rfl rfl (any_of HT_.out (by kernel_rfl)) (fun _ _ _ h => h) (Or.inl ⟨by rfl, ?_⟩) ?_ ?_
                     rotate_left
                     ·intro w'
                      go_simp
                      with_reducible rfl
                     rotate_left
                     ·simp only [Act.put,sA_,s0_,s1_,i64_w,i32_w]
                      rfl
                     refine pure_ (i:=9) (N:=some 65) (v:=?_) (a':=?_) #[true,true,true,true,true,true,true,true,true,true,false,false,false,false,false,false,false,false,false,false,false,false,false,false,false,false,false,false,false,false,false,false] rfl rfl (any_of HT_.out (by kernel_rfl)) (fun _ _ _ h => h) (Or.inl ⟨by rfl, ?_⟩) ?_ ?_
                     rotate_left
                     ·intro w'
                      go_simp
                      with_reducible rfl
                     rotate_left
                     ·simp only [Act.put,sA_,s0_,s1_,i64_w,i32_w]
                      rfl
                     refine pure_ (i:=10) (N:=some 66) (v:=?_) (a':=?_) #[true,true,true,true,true,true,true,true,true,true,true,false,false,false,false,false,false,false,false,false,false,false,false,false,false,false,false,false,false,false,false,false] rfl rfl (any_of HT_.out (by kernel_rfl)) (fun _ _ _ h => h) (Or.inl ⟨by rfl, ?_⟩) ?_ ?_
                     rotate_left
                     ·intro w'
                      go_simp
                      with_reducible rfl
                     rotate_left
                     ·simp only [Act.put,sA_,s0_,s1_,i64_w,i32_w]
                      rfl
                     refine pure_ (i:=11) (N:=some 67) (v:=?_) (a':=?_) #[true,true,true,true,true,true,true,true,true,true,true,true,false,false,false,false,false,false,false,false,false,false,false,false,false,false,false,false,false,false,false,false] rfl rfl (any_of HT_.out (by kernel_rfl)) (fun _ _ _ h => h) (Or.inl ⟨by rfl, ?_⟩) ?_ ?_
                     rotate_left
                     ·intro w'
                      go_simp
                      with_reducible rfl
                     rotate_left
                     ·simp only [Act.put,sA_,s0_,s1_,i64_w,i32_w]
                      rfl
                     refine pure_ (i:=12) (N:=some 68) (v:=?_) (a':=?_) #[true,true,true,true,true,true,true,true,true,true,true,true,true,false,false,false,false,false,false,false,false,false,false,false,false,false,false,false,false,false,false,false] rfl rfl (any_of HT_.out (by kernel_rfl)) (fun _ _ _ h => h) (Or.inl ⟨by rfl, ?_⟩) ?_ ?_
                     rotate_left
                     ·intro w'
                      go_simp
                      with_reducible rfl
                     rotate_left
                     ·simp only [Act.put,sA_,s0_,s1_,i64_w,i32_w]
                      rfl
                     refine pure_ (i:=13) (N:=some 69) (v:=?_) (a':=?_) #[true,true,true,true,true,true,true,true,true,true,true,true,true,true,false,false,false,false,false,false,false,false,false,false,false,false,false,false,false,false,false,false] rfl rfl (any_of HT_.out (by kernel_rfl)) (fun _ _ _ h => h) (Or.inl ⟨by rfl, ?_⟩) ?_ ?_
                     rotate_left
                     ·intro w'
                      go_simp
                      with_reducible rfl
                     rotate_left
                     ·simp only [Act.put,sA_,s0_,s1_,i64_w,i32_w]
                      rfl
                     refine pure_ (i:=15) (N:=some 71) (v:=?_) (a':=?_) #[true,true,true,true,true,true,true,true,true,true,true,true,true,true,false,true,false,false,false,false,false,false,false,false,false,false,false,false,false,false,false,false] rfl rfl (any_of HT_.out (by kernel_rfl)) (fun _ _ _ h => h) (Or.inl ⟨by rfl, ?_⟩) ?_ ?_
                     rotate_left
                     ·intro w'
                      go_simp
                      with_reducible rfl
                     rotate_left
                     ·simp only [Act.put,sA_,s0_,s1_,i64_w,i32_w]
                      rfl
                     refine pure_ (i:=16) (N:=some 72) (v:=?_) (a':=?_) #[true,true,true,true,true,true,true,true,true,true,true,true,true,true,false,true,true,false,false,false,false,false,false,false,false,false,false,false,false,false,false,false] rfl rfl (any_of HT_.out (by kernel_rfl)) (fun _ _ _ h => h) (Or.inl ⟨by rfl, ?_⟩) ?_ ?_
                     rotate_left
                     ·intro w'
                      go_simp
                      with_reducible rfl
                     rotate_left
                     ·simp only [Act.put,sA_,s0_,s1_,i64_w,i32_w]
                      rfl
                     refine pure_ (i:=17) (N:=some 73) (v:=?_) (a':=?_) #[true,true,true,true,true,true,true,true,true,true,true,true,true,true,false,true,true,true,false,false,false,false,false,false,false,false,false,false,false,false,false,false] rfl rfl (any_of HT_.out (by kernel_rfl)) (fun _ _ _ h => h) (Or.inl ⟨by rfl, ?_⟩) ?_ ?_
                     rotate_left
                     ·intro w'
                      go_simp
                      with_reducible rfl
                     rotate_left
                     ·simp only [Act.put,sA_,s0_,s1_,i64_w,i32_w]
                      rfl
                     refine take_ (i:=14) (N:=some 70) (v:=?_) (a':=?_) #[true,true,true,true,true,true,true,true,true,true,true,true,true,true,true,true,true,true,false,false,false,false,false,false,false,false,false,false,false,false,false,false] rfl rfl (take_ofW HT_.out HW_.out (by kernel_rfl)) (fun _ _ _ h => h) (Or.inl ⟨by rfl, ?_⟩) hHeld ?_ ?_
                     rotate_left
                     ·rintro w' ⟨s0,s1,s2,s3,s4,s5⟩
                      go_simp
                      with_reducible rfl
                     rotate_left
                     ·simp only [Act.put,sA_,s0_,s1_,i64_w,i32_w]
                      rfl
                     refine take_ (i:=18) (N:=some 74) (v:=?_) (a':=?_) #[true,true,true,true,true,true,true,true,true,true,true,true,true,true,true,true,true,true,true,false,false,false,false,false,false,false,false,false,false,false,false,false] rfl rfl (take_ofW HT_.out HW_.out (by kernel_rfl)) (fun _ _ _ h => h) (Or.inl ⟨by rfl, ?_⟩) hHeld ?_ ?_
                     rotate_left
                     ·rintro w' ⟨s0,s1,s2,s3,s4,s5⟩
                      go_simp
                      with_reducible rfl
                     rotate_left
                     ·simp only [Act.put,sA_,s0_,s1_,i64_w,i32_w]
                      rfl
                     refine pure_ (i:=19) (N:=some 75) (v:=?_) (a':=?_) #[true,true,true,true,true,true,true,true,true,true,true,true,true,true,true,true,true,true,true,true,false,false,false,false,false,false,false,false,false,false,false,false] rfl rfl (any_of HT_.out (by kernel_rfl)) (fun _ _ _ h => h) (Or.inl ⟨by rfl, ?_⟩) ?_ ?_
                     rotate_left
                     ·intro w'
                      go_simp
                      with_reducible rfl
                     rotate_left
                     ·simp only [Act.put,sA_,s0_,s1_,i64_w,i32_w]
                      rfl
                     refine pure_ (i:=20) (N:=some 76) (v:=?_) (a':=?_) #[true,true,true,true,true,true,true,true,true,true,true,true,true,true,true,true,true,true,true,true,true,false,false,false,false,false,false,false,false,false,false,false] rfl rfl (any_of HT_.out (by kernel_rfl)) (fun _ _ _ h => h) (Or.inl ⟨by rfl, ?_⟩) ?_ ?_
                     rotate_left
                     ·intro w'
                      go_simp
                      with_reducible rfl
                     rotate_left
                     ·simp only [Act.put,sA_,s0_,s1_,i64_w,i32_w]
                      rfl
                     refine pure_ (i:=21) (N:=some 77) (v:=?_) (a':=?_) #[true,true,true,true,true,true,true,true,true,true,true,true,true,true,true,true,true,true,true,true,true,true,false,false,false,false,false,false,false,false,false,false] rfl rfl (any_of HT_.out (by kernel_rfl)) (fun _ _ _ h => h) (Or.inl ⟨by rfl, ?_⟩) ?_ ?_
                     rotate_left
                     ·intro w'
                      go_simp
                      with_reducible rfl
                     rotate_left
                     ·simp only [Act.put,sA_,s0_,s1_,i64_w,i32_w]
                      rfl
                     refine pure_ (i:=22) (N:=some 78) (v:=?_) (a':=?_) #[true,true,true,true,true,true,true,true,true,true,true,true,true,true,true,true,true,true,true,true,true,true,true,false,false,false,false,false,false,false,false,false] rfl rfl (any_of HT_.out (by kernel_rfl)) (fun _ _ _ h => h) (Or.inl ⟨by rfl, ?_⟩) ?_ ?_
                     rotate_left
                     ·intro w'
                      go_simp
                      with_reducible rfl
                     rotate_left
                     ·simp only [Act.put,sA_,s0_,s1_,i64_w,i32_w]
                      rfl
                     refine pure_ (i:=24) (N:=some 80) (v:=?_) (a':=?_) #[true,true,true,true,true,true,true,true,true,true,true,true,true,true,true,true,true,true,true,true,true,true,true,false,true,false,false,false,false,false,false,false] rfl rfl (any_of HT_.out (by kernel_rfl)) (fun _ _ _ h => h) (Or.inl ⟨by rfl, ?_⟩) ?_ ?_
                     rotate_left
                     ·intro w'
                      go_simp
                      with_reducible rfl
                     rotate_left
                     ·simp only [Act.put,sA_,s0_,s1_,i64_w,i32_w]
                      rfl
                     refine pure_ (i:=25) (N:=some 81) (v:=?_) (a':=?_) #[true,true,true,true,true,true,true,true,true,true,true,true,true,true,true,true,true,true,true,true,true,true,true,false,true,true,false,false,false,false,false,false] rfl rfl (any_of HT_.out (by kernel_rfl)) (fun _ _ _ h => h) (Or.inl ⟨by rfl, ?_⟩) ?_ ?_
                     rotate_left
                     ·intro w'
                      go_simp
                      with_reducible rfl
                     rotate_left
                     ·simp only [Act.put,sA_,s0_,s1_,i64_w,i32_w]
                      rfl
                     refine pure_ (i:=26) (N:=some 82) (v:=?_) (a':=?_) #[true,true,true,true,true,true,true,true,true,true,true,true,true,true,true,true,true,true,true,true,true,true,true,false,true,true,true,false,false,false,false,false] rfl rfl (any_of HT_.out (by kernel_rfl)) (fun _ _ _ h => h) (Or.inl ⟨by rfl, ?_⟩) ?_ ?_
                     rotate_left
                     ·intro w'
                      go_simp
                      with_reducible rfl
                     rotate_left
                     ·simp only [Act.put,sA_,s0_,s1_,i64_w,i32_w]
                      rfl
                     refine pure_ (i:=29) (N:=some 85) (v:=?_) (a':=?_) #[true,true,true,true,true,true,true,true,true,true,true,true,true,true,true,true,true,true,true,true,true,true,true,false,true,true,true,false,false,true,false,false] rfl rfl (any_of HT_.out (by kernel_rfl)) (fun _ _ _ h => h) (Or.inl ⟨by rfl, ?_⟩) ?_ ?_
                     rotate_left
                     ·intro w'
                      go_simp
                      with_reducible rfl
                     rotate_left
                     ·simp only [Act.put,sA_,s0_,s1_,i64_w,i32_w]
                      rfl
                     refine take_ (i:=23) (N:=some 79) (v:=?_) (a':=?_) #[true,true,true,true,true,true,true,true,true,true,true,true,true,true,true,true,true,true,true,true,true,true,true,true,true,true,true,false,false,true,false,false] rfl rfl (take_ofW HT_.out HW_.out (by kernel_rfl)) (fun _ _ _ h => h) (Or.inl ⟨by rfl, ?_⟩) hHeld ?_ ?_
                     rotate_left
                     ·rintro w' ⟨s0,s1,s2,s3,s4,s5⟩
                      go_simp
                      with_reducible rfl
                     rotate_left
                     ·simp only [Act.put,sA_,s0_,s1_,i64_w,i32_w]
                      rfl
                     refine take_ (i:=27) (N:=some 83) (v:=?_) (a':=?_) #[true,true,true,true,true,true,true,true,true,true,true,true,true,true,true,true,true,true,true,true,true,true,true,true,true,true,true,true,false,true,false,false] rfl rfl (take_ofW HT_.out HW_.out (by kernel_rfl)) (fun _ _ _ h => h) (Or.inl ⟨by rfl, ?_⟩) hHeld ?_ ?_
                     rotate_left
                     ·rintro w' ⟨s0,s1,s2,s3,s4,s5⟩
                      go_simp
                      with_reducible rfl
                     rotate_left
                     ·simp only [Act.put,sA_,s0_,s1_,i64_w,i32_w]
                      rfl
                     refine one_ (i:=28) (N:=some 84) #[true,true,true,true,true,true,true,true,true,true,true,true,true,true,true,true,true,true,true,true,true,true,true,true,true,true,true,true,true,true,false,false] rfl rfl (one_of HT_.out (by kernel_rfl)) (by decide) (fun K hK => ?_);refine goes_ Try.func29 (by kernel_rfl) rfl #[.agg #[.slice A0_0 l0_0.length c0_0, .slice (some ad155) l0_1.length c0_1], .int .i64 (rd (rd_L1 l0_1 x4_2) x6_4)] (by rfl) rfl rfl (by (try simp only [List.map_toArray,List.map_cons,List.map_nil]);first | done | rfl | (simp only [List.length_drop,List.length_take];rfl)) ?_
                     with_reducible refine (spec_l18Find.calls k4 _ _ l0_0 _ _ l0_1 (rd (rd_L1 l0_1 x4_2) x6_4) t164 _ ?side1 ?side2 ?side3 ?side4 A29.out).mono ?_
                     (case side1 => repeat (first | exact (Kd.C_below HR0_0.out (by repeat (first | (with_reducible first | exact HB.out | apply below_alloc | apply pw_below_drewN | apply below_drew1 | refine below_set ?_ GE153.out) | exact HB.out))) | (with_reducible refine Kd.C_alloc ?_ _) | (with_reducible refine Kd.C_drewN ?_ _) | (with_reducible refine Kd.C_drew ?_)))
                     (case side2 => exact HC0_0.out)
                     (case side3 => repeat (first | exact (Kd.C_below HR0_1.out (by repeat (first | (with_reducible first | exact HB.out | apply below_alloc | apply pw_below_drewN | apply below_drew1 | refine below_set ?_ GE153.out) | exact HB.out))) | (with_reducible refine Kd.C_alloc ?_ _) | (with_reducible refine Kd.C_drewN ?_ _) | (with_reducible refine Kd.C_drew ?_)))
                     (case side4 => exact HC0_1.out)
                     rintro e w34 ⟨rfl,hb⟩;refine ⟨_,rfl, ?_⟩;have n0_:=am_ (blk_below (g:=gb153) (o := .cells #[.slice A0_0 l0_0.length c0_0, .slice (some ad155) l0_1.length c0_1] 27 (0,0)) (by (with_reducible repeat (first | refine blk_drewN ?_ _ | refine blk_drew ?_ | refine blk_alloc ?_ _));exact BK153.out) hb);have n1_:=am_ (below_step (by repeat (first | (with_reducible first | exact HB.out | apply below_alloc | apply pw_below_drewN | apply below_drew1 | refine below_set ?_ GE153.out) | exact HB.out)) hb);clear BK153;clear HB;have BK153:=n0_;have HB:=n1_;clear n0_ n1_;(try clear hb);(try clear hb2);(try clear hk);(try clear hi);refine hK.out _ _ ⟨(blk_cell BK153.out 0).trans rfl,(blk_cell BK153.out 1).trans rfl,((HB.out.cell (World.block_lt_of_cell? w _ hw159_0)).trans hw159_0),((HB.out.cell (World.block_lt_of_cell? w _ hw161_0)).trans hw161_0),((HB.out.cell (World.block_lt_of_cell? w _ hw162_0)).trans hw162_0),((HB.out.cell (World.block_lt_of_cell? w _ hw163_0)).trans hw163_0)⟩ (fun hHeld => ?_);clear hK K;refine norm_ (a':=?_) ?_ ?_
                     rotate_left
                     ·show Act.put _ (some 84) _ = _
                      simp only [Act.put,sA_,s0_,s1_,i64_w,i32_w]
                      rfl
                     refine pure_ (i:=30) (N:=some 86) (v:=?_) (a':=?_) #[true,true,true,true,true,true,true,true,true,true,true,true,true,true,true,true,true,true,true,true,true,true,true,true,true,true,true,true,true,true,true,false] rfl rfl (any_of HT_.out (by kernel_rfl)) (fun _ _ _ h => h) (Or.inl ⟨by rfl, ?_⟩) ?_ ?_
                     rotate_left
                     ·intro w'
                      go_simp
                      with_reducible rfl
                     rotate_left
                     ·simp only [Act.put,sA_,s0_,s1_,i64_w,i32_w]
                      rfl
                     refine pure_ (i:=31) (N:=some 87) (v:=?_) (a':=?_) #[true,true,true,true,true,true,true,true,true,true,true,true,true,true,true,true,true,true,true,true,true,true,true,true,true,true,true,true,true,true,true,true] rfl rfl (any_of HT_.out (by kernel_rfl)) (fun _ _ _ h => h) (Or.inl ⟨by rfl, ?_⟩) ?_ ?_
                     rotate_left
                     ·intro w'
                      go_simp
                      with_reducible rfl
                     rotate_left
                     ·simp only [Act.put,sA_,s0_,s1_,i64_w,i32_w]
                      rfl
                     refine done_ (done_of HT_.out (by kernel_rfl)) ?_
                     try go_wp2
                     go_ret
                     exact ⟨by first | rfl | (simp [errW_none,errW_some] <;> rfl) | (simp only [← hji24];first | rfl | (simp [errW_none,errW_some] <;> rfl)) | (simp [*,errW_none,errW_some] <;> rfl),by repeat (first | (with_reducible first | exact HB.out | apply below_alloc | apply pw_below_drewN | apply below_drew1 | refine below_set ?_ GE153.out) | exact HB.out)⟩
                  ·rw [if_neg c26] at H
                   exact absurd H (by simp)
                 ·rw [if_neg c25] at H
                  exact absurd H (by simp)
                ·rw [if_neg c23] at H;have c23b0 : decide (0 < x6_4) = false:=decide_eq_false c23;clear c23;replace H:=Option.bind_eq_some_iff.mp H;obtain ⟨t166,A350,H⟩ := H;replace H : (if t166 = x4_2 then (spec_l18Good.l1 k4 x3_2 x4_2 (rd_L1 l0_1 x4_2) (wrap64 (x6_4 + 1)) l0_0 l0_1) else (some false)) = some r:=H;have A35:=am_ A350;clear A350
                 by_cases c36 : t166 = x4_2
                 ·rw [if_pos c36] at H;have c36b0 : (t166 == x4_2) = true:=beq_iff_eq.mpr c36;have c36b1 : (t166 != x4_2) = false:=bne_eq_false_iff_eq.mpr c36;clear c36;have H':=am_ H;clear H
                  try go_wp2
                  have n0_:=am_ (blk_drew BK153.out);have n1_:=am_ (below_drew1 HB.out);clear BK153;clear HB;have BK153:=n0_;have HB:=n1_;clear n0_ n1_;have p159 : 0 ≤ (x6_4 : Int):=of_decide_eq_true (by first | (with_reducible assumption) | assumption);have q159 : x6_4 < ((rd_L1 l0_1 x4_2).length : Int):=of_decide_eq_true (by first | (with_reducible assumption) | assumption);obtain ⟨ad159,e159,hx159_0⟩ := Kd.at_int HR155_0.out x6_4 p159 q159;have hw159_0:=hx159_0;cases e159;replace hx159_0:=(HB.out.cell (World.block_lt_of_cell? w _ hx159_0)).trans hx159_0;replace p159:=eq_true p159;replace q159:=eq_true q159;have p165 : 0 ≤ (x6_4 : Int):=of_decide_eq_true (by first | (with_reducible assumption) | assumption);have q165 : x6_4 < ((rd_L1 l0_1 x4_2).length : Int):=of_decide_eq_true (by first | (with_reducible assumption) | assumption);obtain ⟨ad165,e165,hx165_0⟩ := Kd.at_int HR155_0.out x6_4 p165 q165;have hw165_0:=hx165_0;obtain rfl : ad159 = ad165:=(by injection e165);replace hx165_0:=(HB.out.cell (World.block_lt_of_cell? w _ hx165_0)).trans hx165_0;replace p165:=eq_true p165;replace q165:=eq_true q165
                  refine start_ (n:=32) (S:=fun w' => w'.cell? ⟨gb153,0,none⟩ = some (.slice A0_0 l0_0.length c0_0) ∧ w'.cell? ⟨gb153,1,none⟩ = some (.slice (some ad155) l0_1.length c0_1) ∧ w'.cell? (ad159.add (x6_4).toNat) = some (.int .i64 (rd (rd_L1 l0_1 x4_2) x6_4)) ∧ w'.cell? (ad159.add (x6_4).toNat) = some (.int .i64 (rd (rd_L1 l0_1 x4_2) x6_4))) (ds := []) #[false,false,false,false,false,false,false,false,false,false,false,false,false,false,false,false,false,false,false,false,false,false,false,false,false,false,false,false,false,false,false,false] (by kernel_rfl) rfl rfl ⟨(blk_cell BK153.out 0).trans rfl,(blk_cell BK153.out 1).trans rfl,((HB.out.cell (World.block_lt_of_cell? w _ hw159_0)).trans hw159_0),((HB.out.cell (World.block_lt_of_cell? w _ hw165_0)).trans hw165_0)⟩ (fun hHeld => ?_);refine with_tabW spec_l18Good.tab13 spec_l18Good.bits13 (fun HT_ HW_ => ?_)
                  generalize wr.drew = w37 at BK153 HB hx159_0 hx165_0 hHeld ⊢;refine pure_ (i:=0) (N:=some 56) (v:=?_) (a':=?_) #[true,false,false,false,false,false,false,false,false,false,false,false,false,false,false,false,false,false,false,false,false,false,false,false,false,false,false,false,false,false,false,false] rfl rfl (any_of HT_.out (by kernel_rfl)) (fun _ _ _ h => h) (Or.inl ⟨by rfl, ?_⟩) ?_ ?_
                  rotate_left
                  ·intro w'
                   go_simp
                   with_reducible rfl
                  rotate_left
                  ·simp only [Act.put,sA_,s0_,s1_,i64_w,i32_w]
                   rfl
                  refine pure_ (i:=1) (N:=some 57) (v:=?_) (a':=?_) #[true,true,false,false,false,false,false,false,false,false,false,false,false,false,false,false,false,false,false,false,false,false,false,false,false,false,false,false,false,false,false,false] rfl rfl (any_of HT_.out (by kernel_rfl)) (fun _ _ _ h => h) (Or.inl ⟨by rfl, ?_⟩) ?_ ?_
                  rotate_left
                  ·intro w'
                   go_simp
                   with_reducible rfl
                  rotate_left
                  ·simp only [Act.put,sA_,s0_,s1_,i64_w,i32_w]
                   rfl
                  refine pure_ (i:=2) (N:=some 58) (v:=?_) (a':=?_) #[true,true,true,false,false,false,false,false,false,false,false,false,false,false,false,false,false,false,false,false,false,false,false,false,false,false,false,false,false,false,false,false] rfl rfl (any_of HT_.out (by kernel_rfl)) (fun _ _ _ h => h) (Or.inl ⟨by rfl, ?_⟩) ?_ ?_
                  rotate_left
                  ·intro w'
                   go_simp
                   with_reducible rfl
                  rotate_left
                  ·simp only [Act.put,sA_,s0_,s1_,i64_w,i32_w]
                   rfl
                  refine take_ (i:=3) (N:=some 59) (v:=?_) (a':=?_) #[true,true,true,true,false,false,false,false,false,false,false,false,false,false,false,false,false,false,false,false,false,false,false,false,false,false,false,false,false,false,false,false] rfl rfl (take_ofW HT_.out HW_.out (by kernel_rfl)) (fun _ _ _ h => h) (Or.inl ⟨by rfl, ?_⟩) hHeld ?_ ?_
                  rotate_left
                  ·rintro w' ⟨s0,s1,s2,s3⟩
                   go_simp
                   with_reducible rfl
                  rotate_left
                  ·simp only [Act.put,sA_,s0_,s1_,i64_w,i32_w]
                   rfl
                  refine one_ (i:=4) (N:=some 60) #[true,true,true,true,true,false,false,false,false,false,false,false,false,false,false,false,false,false,false,false,false,false,false,false,false,false,false,false,false,false,false,false] rfl rfl (one_of HT_.out (by kernel_rfl)) (by decide) (fun K hK => ?_);refine goes_ Try.func48 (by kernel_rfl) rfl #[.int .i64 (rd (rd_L1 l0_1 x4_2) x6_4), .int .i64 1, .int .i64 99] (by rfl) rfl rfl (by (try simp only [List.map_toArray,List.map_cons,List.map_nil]);first | done | rfl | (simp only [List.length_drop,List.length_take];rfl)) ?_
                  with_reducible refine (spec_l1In.calls (rd (rd_L1 l0_1 x4_2) x6_4) 1 99 true _ A21.out).mono ?_
                  rintro e w' ⟨rfl,⟨nd,rfl⟩⟩;refine ⟨_,rfl, ?_⟩;refine hK.out _ _ ⟨(blk_cell BK153.out 0).trans rfl,(blk_cell BK153.out 1).trans rfl,((HB.out.cell (World.block_lt_of_cell? w _ hw159_0)).trans hw159_0),((HB.out.cell (World.block_lt_of_cell? w _ hw165_0)).trans hw165_0)⟩ (fun hHeld => ?_);clear hK K;refine norm_ (a':=?_) ?_ ?_
                  rotate_left
                  ·show Act.put _ (some 60) _ = _
                   simp only [Act.put,sA_,s0_,s1_,i64_w,i32_w]
                   rfl
                  refine pure_ (i:=5) (N:=some 61) (v:=?_) (a':=?_) #[true,true,true,true,true,true,false,false,false,false,false,false,false,false,false,false,false,false,false,false,false,false,false,false,false,false,false,false,false,false,false,false] rfl rfl (any_of HT_.out (by kernel_rfl)) (fun _ _ _ h => h) (Or.inl ⟨by rfl, ?_⟩) ?_ ?_
                  rotate_left
                  ·intro w'
                   go_simp
                   with_reducible rfl
                  rotate_left
                  ·simp only [Act.put,sA_,s0_,s1_,i64_w,i32_w]
                   rfl
                  refine pure_ (i:=6) (N:=some 62) (v:=?_) (a':=?_) #[true,true,true,true,true,true,true,false,false,false,false,false,false,false,false,false,false,false,false,false,false,false,false,false,false,false,false,false,false,false,false,false] rfl rfl (any_of HT_.out (by kernel_rfl)) (fun _ _ _ h => h) (Or.inl ⟨by rfl, ?_⟩) ?_ ?_
                  rotate_left
                  ·intro w'
                   go_simp
                   with_reducible rfl
                  rotate_left
                  ·simp only [Act.put,sA_,s0_,s1_,i64_w,i32_w]
                   rfl
                  refine pure_ (i:=7) (N:=some 63) (v:=?_) (a':=?_) #[true,true,true,true,true,true,true,true,false,false,false,false,false,false,false,false,false,false,false,false,false,false,false,false,false,false,false,false,false,false,false,false] rfl rfl (any_of HT_.out (by kernel_rfl)) (fun _ _ _ h => h) (Or.inl ⟨by rfl, ?_⟩) ?_ ?_
                  rotate_left
                  ·intro w'
                   go_simp
                   with_reducible rfl
                  rotate_left
                  ·simp only [Act.put,sA_,s0_,s1_,i64_w,i32_w]
                   rfl
                  refine pure_ (i:=8) (N:=some 64) (v:=?_) (a':=?_) #[true,true,true,true,true,true,true,true,true,false,false,false,false,false,false,false,false,false,false,false,false,false,false,false,false,false,false,false,false,false,false,false] rfl rfl (any_of HT_.out (by kernel_rfl)) (fun _ _ _ h => h) (Or.inl ⟨by rfl, ?_⟩) ?_ ?_
                  rotate_left
                  ·intro w'
                   go_simp
                   with_reducible rfl
                  rotate_left
                  ·simp only [Act.put,sA_,s0_,s1_,i64_w,i32_w]
                   rfl
                  refine pure_ (i:=9) (N:=some 65) (v:=?_) (a':=?_) #[true,true,true,true,true,true,true,true,true,true,false,false,false,false,false,false,false,false,false,false,false,false,false,false,false,false,false,false,false,false,false,false] rfl rfl (any_of HT_.out (by kernel_rfl)) (fun _ _ _ h => h) (Or.inl ⟨by rfl, ?_⟩) ?_ ?_
                  rotate_left
                  ·intro w'
                   go_simp
                   with_reducible rfl
                  rotate_left
                  ·simp only [Act.put,sA_,s0_,s1_,i64_w,i32_w]
                   rfl
                  refine pure_ (i:=10) (N:=some 66) (v:=undef) (a':=?_) #[true,true,true,true,true,true,true,true,true,true,true,false,false,false,false,false,false,false,false,false,false,false,false,false,false,false,false,false,false,false,false,false] rfl rfl (any_of HT_.out (by kernel_rfl)) (fun _ _ _ h => h) (Or.inr ⟨by rfl,rfl⟩) ?_ ?_
                  rotate_left
                  ·simp only [Act.put,sA_,s0_,s1_,i64_w,i32_w]
                   rfl
                  refine pure_ (i:=11) (N:=some 67) (v:=undef) (a':=?_) #[true,true,true,true,true,true,true,true,true,true,true,true,false,false,false,false,false,false,false,false,false,false,false,false,false,false,false,false,false,false,false,false] rfl rfl (any_of HT_.out (by kernel_rfl)) (fun _ _ _ h => h) (Or.inr ⟨by rfl,rfl⟩) ?_ ?_
                  rotate_left
                  ·simp only [Act.put,sA_,s0_,s1_,i64_w,i32_w]
                   rfl
                  refine pure_ (i:=12) (N:=some 68) (v:=undef) (a':=?_) #[true,true,true,true,true,true,true,true,true,true,true,true,true,false,false,false,false,false,false,false,false,false,false,false,false,false,false,false,false,false,false,false] rfl rfl (any_of HT_.out (by kernel_rfl)) (fun _ _ _ h => h) (Or.inr ⟨by rfl,rfl⟩) ?_ ?_
                  rotate_left
                  ·simp only [Act.put,sA_,s0_,s1_,i64_w,i32_w]
                   rfl
                  refine pure_ (i:=13) (N:=some 69) (v:=undef) (a':=?_) #[true,true,true,true,true,true,true,true,true,true,true,true,true,true,false,false,false,false,false,false,false,false,false,false,false,false,false,false,false,false,false,false] rfl rfl (any_of HT_.out (by kernel_rfl)) (fun _ _ _ h => h) (Or.inr ⟨by rfl,rfl⟩) ?_ ?_
                  rotate_left
                  ·simp only [Act.put,sA_,s0_,s1_,i64_w,i32_w]
                   rfl
                  refine pure_ (i:=14) (N:=some 70) (v:=undef) (a':=?_) #[true,true,true,true,true,true,true,true,true,true,true,true,true,true,true,false,false,false,false,false,false,false,false,false,false,false,false,false,false,false,false,false] rfl rfl (any_of HT_.out (by kernel_rfl)) (fun _ _ _ h => h) (Or.inr ⟨by rfl,rfl⟩) ?_ ?_
                  rotate_left
                  ·simp only [Act.put,sA_,s0_,s1_,i64_w,i32_w]
                   rfl
                  refine pure_ (i:=15) (N:=some 71) (v:=undef) (a':=?_) #[true,true,true,true,true,true,true,true,true,true,true,true,true,true,true,true,false,false,false,false,false,false,false,false,false,false,false,false,false,false,false,false] rfl rfl (any_of HT_.out (by kernel_rfl)) (fun _ _ _ h => h) (Or.inr ⟨by rfl,rfl⟩) ?_ ?_
                  rotate_left
                  ·simp only [Act.put,sA_,s0_,s1_,i64_w,i32_w]
                   rfl
                  refine pure_ (i:=16) (N:=some 72) (v:=undef) (a':=?_) #[true,true,true,true,true,true,true,true,true,true,true,true,true,true,true,true,true,false,false,false,false,false,false,false,false,false,false,false,false,false,false,false] rfl rfl (any_of HT_.out (by kernel_rfl)) (fun _ _ _ h => h) (Or.inr ⟨by rfl,rfl⟩) ?_ ?_
                  rotate_left
                  ·simp only [Act.put,sA_,s0_,s1_,i64_w,i32_w]
                   rfl
                  refine pure_ (i:=17) (N:=some 73) (v:=undef) (a':=?_) #[true,true,true,true,true,true,true,true,true,true,true,true,true,true,true,true,true,true,false,false,false,false,false,false,false,false,false,false,false,false,false,false] rfl rfl (any_of HT_.out (by kernel_rfl)) (fun _ _ _ h => h) (Or.inr ⟨by rfl,rfl⟩) ?_ ?_
                  rotate_left
                  ·simp only [Act.put,sA_,s0_,s1_,i64_w,i32_w]
                   rfl
                  refine pure_ (i:=18) (N:=some 74) (v:=undef) (a':=?_) #[true,true,true,true,true,true,true,true,true,true,true,true,true,true,true,true,true,true,true,false,false,false,false,false,false,false,false,false,false,false,false,false] rfl rfl (any_of HT_.out (by kernel_rfl)) (fun _ _ _ h => h) (Or.inr ⟨by rfl,rfl⟩) ?_ ?_
                  rotate_left
                  ·simp only [Act.put,sA_,s0_,s1_,i64_w,i32_w]
                   rfl
                  refine pure_ (i:=19) (N:=some 75) (v:=undef) (a':=?_) #[true,true,true,true,true,true,true,true,true,true,true,true,true,true,true,true,true,true,true,true,false,false,false,false,false,false,false,false,false,false,false,false] rfl rfl (any_of HT_.out (by kernel_rfl)) (fun _ _ _ h => h) (Or.inr ⟨by rfl,rfl⟩) ?_ ?_
                  rotate_left
                  ·simp only [Act.put,sA_,s0_,s1_,i64_w,i32_w]
                   rfl
                  refine pure_ (i:=20) (N:=some 76) (v:=?_) (a':=?_) #[true,true,true,true,true,true,true,true,true,true,true,true,true,true,true,true,true,true,true,true,true,false,false,false,false,false,false,false,false,false,false,false] rfl rfl (any_of HT_.out (by kernel_rfl)) (fun _ _ _ h => h) (Or.inl ⟨by rfl, ?_⟩) ?_ ?_
                  rotate_left
                  ·intro w'
                   go_simp
                   with_reducible rfl
                  rotate_left
                  ·simp only [Act.put,sA_,s0_,s1_,i64_w,i32_w]
                   rfl
                  refine pure_ (i:=21) (N:=some 77) (v:=?_) (a':=?_) #[true,true,true,true,true,true,true,true,true,true,true,true,true,true,true,true,true,true,true,true,true,true,false,false,false,false,false,false,false,false,false,false] rfl rfl (any_of HT_.out (by kernel_rfl)) (fun _ _ _ h => h) (Or.inl ⟨by rfl, ?_⟩) ?_ ?_
                  rotate_left
                  ·intro w'
                   go_simp
                   with_reducible rfl
                  rotate_left
                  ·simp only [Act.put,sA_,s0_,s1_,i64_w,i32_w]
                   rfl
                  refine pure_ (i:=22) (N:=some 78) (v:=?_) (a':=?_) #[true,true,true,true,true,true,true,true,true,true,true,true,true,true,true,true,true,true,true,true,true,true,true,false,false,false,false,false,false,false,false,false] rfl rfl (any_of HT_.out (by kernel_rfl)) (fun _ _ _ h => h) (Or.inl ⟨by rfl, ?_⟩) ?_ ?_
                  rotate_left
                  ·intro w'
                   go_simp
                   with_reducible rfl
                  rotate_left
                  ·simp only [Act.put,sA_,s0_,s1_,i64_w,i32_w]
                   rfl
                  refine pure_ (i:=24) (N:=some 80) (v:=?_) (a':=?_) #[true,true,true,true,true,true,true,true,true,true,true,true,true,true,true,true,true,true,true,true,true,true,true,false,true,false,false,false,false,false,false,false] rfl rfl (any_of HT_.out (by kernel_rfl)) (fun _ _ _ h => h) (Or.inl ⟨by rfl, ?_⟩) ?_ ?_
                  rotate_left
                  ·intro w'
                   go_simp
                   with_reducible rfl
                  rotate_left
                  ·simp only [Act.put,sA_,s0_,s1_,i64_w,i32_w]
                   rfl
                  refine pure_ (i:=25) (N:=some 81) (v:=?_) (a':=?_) #[true,true,true,true,true,true,true,true,true,true,true,true,true,true,true,true,true,true,true,true,true,true,true,false,true,true,false,false,false,false,false,false] rfl rfl (any_of HT_.out (by kernel_rfl)) (fun _ _ _ h => h) (Or.inl ⟨by rfl, ?_⟩) ?_ ?_
                  rotate_left
                  ·intro w'
                   go_simp
                   with_reducible rfl
                  rotate_left
                  ·simp only [Act.put,sA_,s0_,s1_,i64_w,i32_w]
                   rfl
                  refine pure_ (i:=26) (N:=some 82) (v:=?_) (a':=?_) #[true,true,true,true,true,true,true,true,true,true,true,true,true,true,true,true,true,true,true,true,true,true,true,false,true,true,true,false,false,false,false,false] rfl rfl (any_of HT_.out (by kernel_rfl)) (fun _ _ _ h => h) (Or.inl ⟨by rfl, ?_⟩) ?_ ?_
                  rotate_left
                  ·intro w'
                   go_simp
                   with_reducible rfl
                  rotate_left
                  ·simp only [Act.put,sA_,s0_,s1_,i64_w,i32_w]
                   rfl
                  refine pure_ (i:=29) (N:=some 85) (v:=?_) (a':=?_) #[true,true,true,true,true,true,true,true,true,true,true,true,true,true,true,true,true,true,true,true,true,true,true,false,true,true,true,false,false,true,false,false] rfl rfl (any_of HT_.out (by kernel_rfl)) (fun _ _ _ h => h) (Or.inl ⟨by rfl, ?_⟩) ?_ ?_
                  rotate_left
                  ·intro w'
                   go_simp
                   with_reducible rfl
                  rotate_left
                  ·simp only [Act.put,sA_,s0_,s1_,i64_w,i32_w]
                   rfl
                  refine take_ (i:=23) (N:=some 79) (v:=?_) (a':=?_) #[true,true,true,true,true,true,true,true,true,true,true,true,true,true,true,true,true,true,true,true,true,true,true,true,true,true,true,false,false,true,false,false] rfl rfl (take_ofW HT_.out HW_.out (by kernel_rfl)) (fun _ _ _ h => h) (Or.inl ⟨by rfl, ?_⟩) hHeld ?_ ?_
                  rotate_left
                  ·rintro w' ⟨s0,s1,s2,s3⟩
                   go_simp
                   with_reducible rfl
                  rotate_left
                  ·simp only [Act.put,sA_,s0_,s1_,i64_w,i32_w]
                   rfl
                  refine take_ (i:=27) (N:=some 83) (v:=?_) (a':=?_) #[true,true,true,true,true,true,true,true,true,true,true,true,true,true,true,true,true,true,true,true,true,true,true,true,true,true,true,true,false,true,false,false] rfl rfl (take_ofW HT_.out HW_.out (by kernel_rfl)) (fun _ _ _ h => h) (Or.inl ⟨by rfl, ?_⟩) hHeld ?_ ?_
                  rotate_left
                  ·rintro w' ⟨s0,s1,s2,s3⟩
                   go_simp
                   with_reducible rfl
                  rotate_left
                  ·simp only [Act.put,sA_,s0_,s1_,i64_w,i32_w]
                   rfl
                  refine one_ (i:=28) (N:=some 84) #[true,true,true,true,true,true,true,true,true,true,true,true,true,true,true,true,true,true,true,true,true,true,true,true,true,true,true,true,true,true,false,false] rfl rfl (one_of HT_.out (by kernel_rfl)) (by decide) (fun K hK => ?_);refine goes_ Try.func29 (by kernel_rfl) rfl #[.agg #[.slice A0_0 l0_0.length c0_0, .slice (some ad155) l0_1.length c0_1], .int .i64 (rd (rd_L1 l0_1 x4_2) x6_4)] (by rfl) rfl rfl (by (try simp only [List.map_toArray,List.map_cons,List.map_nil]);first | done | rfl | (simp only [List.length_drop,List.length_take];rfl)) ?_
                  with_reducible refine (spec_l18Find.calls k4 _ _ l0_0 _ _ l0_1 (rd (rd_L1 l0_1 x4_2) x6_4) t166 _ ?side1 ?side2 ?side3 ?side4 A35.out).mono ?_
                  (case side1 => repeat (first | exact (Kd.C_below HR0_0.out (by repeat (first | (with_reducible first | exact HB.out | apply below_alloc | apply pw_below_drewN | apply below_drew1 | refine below_set ?_ GE153.out) | exact HB.out))) | (with_reducible refine Kd.C_alloc ?_ _) | (with_reducible refine Kd.C_drewN ?_ _) | (with_reducible refine Kd.C_drew ?_)))
                  (case side2 => exact HC0_0.out)
                  (case side3 => repeat (first | exact (Kd.C_below HR0_1.out (by repeat (first | (with_reducible first | exact HB.out | apply below_alloc | apply pw_below_drewN | apply below_drew1 | refine below_set ?_ GE153.out) | exact HB.out))) | (with_reducible refine Kd.C_alloc ?_ _) | (with_reducible refine Kd.C_drewN ?_ _) | (with_reducible refine Kd.C_drew ?_)))
                  (case side4 => exact HC0_1.out)
                  rintro e w38 ⟨rfl,hb⟩;refine ⟨_,rfl, ?_⟩;have n0_:=am_ (blk_below (g:=gb153) (o := .cells #[.slice A0_0 l0_0.length c0_0, .slice (some ad155) l0_1.length c0_1] 27 (0,0)) (by (with_reducible repeat (first | refine blk_drewN ?_ _ | refine blk_drew ?_ | refine blk_alloc ?_ _));exact BK153.out) hb);have n1_:=am_ (below_step (by repeat (first | (with_reducible first | exact HB.out | apply below_alloc | apply pw_below_drewN | apply below_drew1 | refine below_set ?_ GE153.out) | exact HB.out)) hb);clear BK153;clear HB;have BK153:=n0_;have HB:=n1_;clear n0_ n1_;(try clear hb);(try clear hb2);(try clear hk);(try clear hi);refine hK.out _ _ ⟨(blk_cell BK153.out 0).trans rfl,(blk_cell BK153.out 1).trans rfl,((HB.out.cell (World.block_lt_of_cell? w _ hw159_0)).trans hw159_0),((HB.out.cell (World.block_lt_of_cell? w _ hw165_0)).trans hw165_0)⟩ (fun hHeld => ?_);clear hK K;refine norm_ (a':=?_) ?_ ?_
                  rotate_left
                  ·show Act.put _ (some 84) _ = _
                   simp only [Act.put,sA_,s0_,s1_,i64_w,i32_w]
                   rfl
                  refine pure_ (i:=30) (N:=some 86) (v:=?_) (a':=?_) #[true,true,true,true,true,true,true,true,true,true,true,true,true,true,true,true,true,true,true,true,true,true,true,true,true,true,true,true,true,true,true,false] rfl rfl (any_of HT_.out (by kernel_rfl)) (fun _ _ _ h => h) (Or.inl ⟨by rfl, ?_⟩) ?_ ?_
                  rotate_left
                  ·intro w'
                   go_simp
                   with_reducible rfl
                  rotate_left
                  ·simp only [Act.put,sA_,s0_,s1_,i64_w,i32_w]
                   rfl
                  refine pure_ (i:=31) (N:=some 87) (v:=?_) (a':=?_) #[true,true,true,true,true,true,true,true,true,true,true,true,true,true,true,true,true,true,true,true,true,true,true,true,true,true,true,true,true,true,true,true] rfl rfl (any_of HT_.out (by kernel_rfl)) (fun _ _ _ h => h) (Or.inl ⟨by rfl, ?_⟩) ?_ ?_
                  rotate_left
                  ·intro w'
                   go_simp
                   with_reducible rfl
                  rotate_left
                  ·simp only [Act.put,sA_,s0_,s1_,i64_w,i32_w]
                   rfl
                  refine done_ (done_of HT_.out (by kernel_rfl)) ?_
                  try go_wp2
                  go_roundg k4
                  case measure => have:=HJ1.out;have:=HK2.out;have:=HJ10.out;have:=HK4.out;omega
                  case rel => exact ⟨(wrap64 (x6_4 + 1)),(by first | rfl | (simp;done) | (simp [*];done)),H',⟨by have:=HJ1.out;have:=HK2.out;have:=HJ10.out;have:=HK4.out;omega⟩,⟨by (with_reducible repeat (first | refine blk_drewN ?_ _ | refine blk_drew ?_ | refine blk_alloc ?_ _));exact BK153.out⟩,⟨by repeat (first | (with_reducible first | exact HB.out | apply below_alloc | apply pw_below_drewN | apply below_drew1 | refine below_set ?_ GE153.out) | exact HB.out)⟩⟩
                 ·rw [if_neg c36] at H;have c36b0 : (t166 == x4_2) = false:=beq_eq_false_iff_ne.mpr c36;have c36b1 : (t166 != x4_2) = true:=bne_iff_ne.mpr c36;obtain rfl:=Option.some.inj H
                  try go_wp2
                  have n0_:=am_ (blk_drew BK153.out);have n1_:=am_ (below_drew1 HB.out);clear BK153;clear HB;have BK153:=n0_;have HB:=n1_;clear n0_ n1_;have p159 : 0 ≤ (x6_4 : Int):=of_decide_eq_true (by first | (with_reducible assumption) | assumption);have q159 : x6_4 < ((rd_L1 l0_1 x4_2).length : Int):=of_decide_eq_true (by first | (with_reducible assumption) | assumption);obtain ⟨ad159,e159,hx159_0⟩ := Kd.at_int HR155_0.out x6_4 p159 q159;have hw159_0:=hx159_0;cases e159;replace hx159_0:=(HB.out.cell (World.block_lt_of_cell? w _ hx159_0)).trans hx159_0;replace p159:=eq_true p159;replace q159:=eq_true q159;have p165 : 0 ≤ (x6_4 : Int):=of_decide_eq_true (by first | (with_reducible assumption) | assumption);have q165 : x6_4 < ((rd_L1 l0_1 x4_2).length : Int):=of_decide_eq_true (by first | (with_reducible assumption) | assumption);obtain ⟨ad165,e165,hx165_0⟩ := Kd.at_int HR155_0.out x6_4 p165 q165;have hw165_0:=hx165_0;obtain rfl : ad159 = ad165:=(by injection e165);replace hx165_0:=(HB.out.cell (World.block_lt_of_cell? w _ hx165_0)).trans hx165_0;replace p165:=eq_true p165;replace q165:=eq_true q165
                  refine start_ (n:=32) (S:=fun w' => w'.cell? ⟨gb153,0,none⟩ = some (.slice A0_0 l0_0.length c0_0) ∧ w'.cell? ⟨gb153,1,none⟩ = some (.slice (some ad155) l0_1.length c0_1) ∧ w'.cell? (ad159.add (x6_4).toNat) = some (.int .i64 (rd (rd_L1 l0_1 x4_2) x6_4)) ∧ w'.cell? (ad159.add (x6_4).toNat) = some (.int .i64 (rd (rd_L1 l0_1 x4_2) x6_4))) (ds := []) #[false,false,false,false,false,false,false,false,false,false,false,false,false,false,false,false,false,false,false,false,false,false,false,false,false,false,false,false,false,false,false,false] (by kernel_rfl) rfl rfl ⟨(blk_cell BK153.out 0).trans rfl,(blk_cell BK153.out 1).trans rfl,((HB.out.cell (World.block_lt_of_cell? w _ hw159_0)).trans hw159_0),((HB.out.cell (World.block_lt_of_cell? w _ hw165_0)).trans hw165_0)⟩ (fun hHeld => ?_);refine with_tabW spec_l18Good.tab13 spec_l18Good.bits13 (fun HT_ HW_ => ?_)
                  generalize wr.drew = w39 at BK153 HB hx159_0 hx165_0 hHeld ⊢;refine pure_ (i:=0) (N:=some 56) (v:=?_) (a':=?_) #[true,false,false,false,false,false,false,false,false,false,false,false,false,false,false,false,false,false,false,false,false,false,false,false,false,false,false,false,false,false,false,false] rfl rfl (any_of HT_.out (by kernel_rfl)) (fun _ _ _ h => h) (Or.inl ⟨by rfl, ?_⟩) ?_ ?_
                  rotate_left
                  ·intro w'
                   go_simp
                   with_reducible rfl
                  rotate_left
                  ·simp only [Act.put,sA_,s0_,s1_,i64_w,i32_w]
                   rfl
                  refine pure_ (i:=1) (N:=some 57) (v:=?_) (a':=?_) #[true,true,false,false,false,false,false,false,false,false,false,false,false,false,false,false,false,false,false,false,false,false,false,false,false,false,false,false,false,false,false,false] rfl rfl (any_of HT_.out (by kernel_rfl)) (fun _ _ _ h => h) (Or.inl ⟨by rfl, ?_⟩) ?_ ?_
                  rotate_left
                  ·intro w'
                   go_simp
                   with_reducible rfl
                  rotate_left
                  ·simp only [Act.put,sA_,s0_,s1_,i64_w,i32_w]
                   rfl
                  refine pure_ (i:=2) (N:=some 58) (v:=?_) (a':=?_) #[true,true,true,false,false,false,false,false,false,false,false,false,false,false,false,false,false,false,false,false,false,false,false,false,false,false,false,false,false,false,false,false] rfl rfl (any_of HT_.out (by kernel_rfl)) (fun _ _ _ h => h) (Or.inl ⟨by rfl, ?_⟩) ?_ ?_
                  rotate_left
                  ·intro w'
                   go_simp
                   with_reducible rfl
                  rotate_left
                  ·simp only [Act.put,sA_,s0_,s1_,i64_w,i32_w]
                   rfl
                  refine take_ (i:=3) (N:=some 59) (v:=?_) (a':=?_) #[true,true,true,true,false,false,false,false,false,false,false,false,false,false,false,false,false,false,false,false,false,false,false,false,false,false,false,false,false,false,false,false] rfl rfl (take_ofW HT_.out HW_.out (by kernel_rfl)) (fun _ _ _ h => h) (Or.inl ⟨by rfl, ?_⟩) hHeld ?_ ?_
                  rotate_left
                  ·rintro w' ⟨s0,s1,s2,s3⟩
                   go_simp
                   with_reducible rfl
                  rotate_left
                  ·simp only [Act.put,sA_,s0_,s1_,i64_w,i32_w]
                   rfl
                  refine one_ (i:=4) (N:=some 60) #[true,true,true,true,true,false,false,false,false,false,false,false,false,false,false,false,false,false,false,false,false,false,false,false,false,false,false,false,false,false,false,false] rfl rfl (one_of HT_.out (by kernel_rfl)) (by decide) (fun K hK => ?_);refine goes_ Try.func48 (by kernel_rfl) rfl #[.int .i64 (rd (rd_L1 l0_1 x4_2) x6_4), .int .i64 1, .int .i64 99] (by rfl) rfl rfl (by (try simp only [List.map_toArray,List.map_cons,List.map_nil]);first | done | rfl | (simp only [List.length_drop,List.length_take];rfl)) ?_
                  with_reducible refine (spec_l1In.calls (rd (rd_L1 l0_1 x4_2) x6_4) 1 99 true _ A21.out).mono ?_
                  rintro e w' ⟨rfl,⟨nd,rfl⟩⟩;refine ⟨_,rfl, ?_⟩;refine hK.out _ _ ⟨(blk_cell BK153.out 0).trans rfl,(blk_cell BK153.out 1).trans rfl,((HB.out.cell (World.block_lt_of_cell? w _ hw159_0)).trans hw159_0),((HB.out.cell (World.block_lt_of_cell? w _ hw165_0)).trans hw165_0)⟩ (fun hHeld => ?_);clear hK K;refine norm_ (a':=?_) ?_ ?_
                  rotate_left
                  ·show Act.put _ (some 60) _ = _
                   simp only [Act.put,sA_,s0_,s1_,i64_w,i32_w]
                   rfl
                  refine pure_ (i:=5) (N:=some 61) (v:=?_) (a':=?_) #[true,true,true,true,true,true,false,false,false,false,false,false,false,false,false,false,false,false,false,false,false,false,false,false,false,false,false,false,false,false,false,false] rfl rfl (any_of HT_.out (by kernel_rfl)) (fun _ _ _ h => h) (Or.inl ⟨by rfl, ?_⟩) ?_ ?_
                  rotate_left
                  ·intro w'
                   go_simp
                   with_reducible rfl
                  rotate_left
                  ·simp only [Act.put,sA_,s0_,s1_,i64_w,i32_w]
                   rfl
                  refine pure_ (i:=6) (N:=some 62) (v:=?_) (a':=?_) #[true,true,true,true,true,true,true,false,false,false,false,false,false,false,false,false,false,false,false,false,false,false,false,false,false,false,false,false,false,false,false,false] rfl rfl (any_of HT_.out (by kernel_rfl)) (fun _ _ _ h => h) (Or.inl ⟨by rfl, ?_⟩) ?_ ?_
                  rotate_left
                  ·intro w'
                   go_simp
                   with_reducible rfl
                  rotate_left
                  ·simp only [Act.put,sA_,s0_,s1_,i64_w,i32_w]
                   rfl
                  refine pure_ (i:=7) (N:=some 63) (v:=?_) (a':=?_) #[true,true,true,true,true,true,true,true,false,false,false,false,false,false,false,false,false,false,false,false,false,false,false,false,false,false,false,false,false,false,false,false] rfl rfl (any_of HT_.out (by kernel_rfl)) (fun _ _ _ h => h) (Or.inl ⟨by rfl, ?_⟩) ?_ ?_
                  rotate_left
                  ·intro w'
                   go_simp
                   with_reducible rfl
                  rotate_left
                  ·simp only [Act.put,sA_,s0_,s1_,i64_w,i32_w]
                   rfl
                  refine pure_ (i:=8) (N:=some 64) (v:=?_) (a':=?_) #[true,true,true,true,true,true,true,true,true,false,false,false,false,false,false,false,false,false,false,false,false,false,false,false,false,false,false,false,false,false,false,false] rfl rfl (any_of HT_.out (by kernel_rfl)) (fun _ _ _ h => h) (Or.inl ⟨by rfl, ?_⟩) ?_ ?_
                  rotate_left
                  ·intro w'
                   go_simp
                   with_reducible rfl
                  rotate_left
                  ·simp only [Act.put,sA_,s0_,s1_,i64_w,i32_w]
                   rfl
                  refine pure_ (i:=9) (N:=some 65) (v:=?_) (a':=?_) #[true,true,true,true,true,true,true,true,true,true,false,false,false,false,false,false,false,false,false,false,false,false,false,false,false,false,false,false,false,false,false,false] rfl rfl (any_of HT_.out (by kernel_rfl)) (fun _ _ _ h => h) (Or.inl ⟨by rfl, ?_⟩) ?_ ?_
                  rotate_left
                  ·intro w'
                   go_simp
                   with_reducible rfl
                  rotate_left
                  ·simp only [Act.put,sA_,s0_,s1_,i64_w,i32_w]
                   rfl
                  refine pure_ (i:=10) (N:=some 66) (v:=undef) (a':=?_) #[true,true,true,true,true,true,true,true,true,true,true,false,false,false,false,false,false,false,false,false,false,false,false,false,false,false,false,false,false,false,false,false] rfl rfl (any_of HT_.out (by kernel_rfl)) (fun _ _ _ h => h) (Or.inr ⟨by rfl,rfl⟩) ?_ ?_
                  rotate_left
                  ·simp only [Act.put,sA_,s0_,s1_,i64_w,i32_w]
                   rfl
                  refine pure_ (i:=11) (N:=some 67) (v:=undef) (a':=?_) #[true,true,true,true,true,true,true,true,true,true,true,true,false,false,false,false,false,false,false,false,false,false,false,false,false,false,false,false,false,false,false,false] rfl rfl (any_of HT_.out (by kernel_rfl)) (fun _ _ _ h => h) (Or.inr ⟨by rfl,rfl⟩) ?_ ?_
                  rotate_left
                  ·simp only [Act.put,sA_,s0_,s1_,i64_w,i32_w]
                   rfl
                  refine pure_ (i:=12) (N:=some 68) (v:=undef) (a':=?_) #[true,true,true,true,true,true,true,true,true,true,true,true,true,false,false,false,false,false,false,false,false,false,false,false,false,false,false,false,false,false,false,false] rfl rfl (any_of HT_.out (by kernel_rfl)) (fun _ _ _ h => h) (Or.inr ⟨by rfl,rfl⟩) ?_ ?_
                  rotate_left
                  ·simp only [Act.put,sA_,s0_,s1_,i64_w,i32_w]
                   rfl
                  refine pure_ (i:=13) (N:=some 69) (v:=undef) (a':=?_) #[true,true,true,true,true,true,true,true,true,true,true,true,true,true,false,false,false,false,false,false,false,false,false,false,false,false,false,false,false,false,false,false] rfl rfl (any_of HT_.out (by kernel_rfl)) (fun _ _ _ h => h) (Or.inr ⟨by rfl,rfl⟩) ?_ ?_
                  rotate_left
                  ·simp only [Act.put,sA_,s0_,s1_,i64_w,i32_w]
                   rfl
                  refine pure_ (i:=14) (N:=some 70) (v:=undef) (a':=?_) #[true,true,true,true,true,true,true,true,true,true,true,true,true,true,true,false,false,false,false,false,false,false,false,false,false,false,false,false,false,false,false,false] rfl rfl (any_of HT_.out (by kernel_rfl)) (fun _ _ _ h => h) (Or.inr ⟨by rfl,rfl⟩) ?_ ?_
                  rotate_left
                  ·simp only [Act.put,sA_,s0_,s1_,i64_w,i32_w]
                   rfl
                  refine pure_ (i:=15) (N:=some 71) (v:=undef) (a':=?_) #[true,true,true,true,true,true,true,true,true,true,true,true,true,true,true,true,false,false,false,false,false,false,false,false,false,false,false,false,false,false,false,false] rfl rfl (any_of HT_.out (by kernel_rfl)) (fun _ _ _ h => h) (Or.inr ⟨by rfl,rfl⟩) ?_ ?_
                  rotate_left
                  ·simp only [Act.put,sA_,s0_,s1_,i64_w,i32_w]
                   rfl
                  refine pure_ (i:=16) (N:=some 72) (v:=undef) (a':=?_) #[true,true,true,true,true,true,true,true,true,true,true,true,true,true,true,true,true,false,false,false,false,false,false,false,false,false,false,false,false,false,false,false] rfl rfl (any_of HT_.out (by kernel_rfl)) (fun _ _ _ h => h) (Or.inr ⟨by rfl,rfl⟩) ?_ ?_
                  rotate_left
                  ·simp only [Act.put,sA_,s0_,s1_,i64_w,i32_w]
                   rfl
                  refine pure_ (i:=17) (N:=some 73) (v:=undef) (a':=?_) #[true,true,true,true,true,true,true,true,true,true,true,true,true,true,true,true,true,true,false,false,false,false,false,false,false,false,false,false,false,false,false,false] rfl rfl (any_of HT_.out (by kernel_rfl)) (fun _ _ _ h => h) (Or.inr ⟨by rfl,rfl⟩) ?_ ?_
                  rotate_left
                  ·simp only [Act.put,sA_,s0_,s1_,i64_w,i32_w]
                   rfl
                  refine pure_ (i:=18) (N:=some 74) (v:=undef) (a':=?_) #[true,true,true,true,true,true,true,true,true,true,true,true,true,true,true,true,true,true,true,false,false,false,false,false,false,false,false,false,false,false,false,false] rfl rfl (any_of HT_.out (by kernel_rfl)) (fun _ _ _ h => h) (Or.inr ⟨by rfl,rfl⟩) ?_ ?_
                  rotate_left
                  ·simp only [Act.put,sA_,s0_,s1_,i64_w,i32_w]
                   rfl
                  refine pure_ (i:=19) (N:=some 75) (v:=undef) (a':=?_) #[true,true,true,true,true,true,true,true,true,true,true,true,true,true,true,true,true,true,true,true,false,false,false,false,false,false,false,false,false,false,false,false] rfl rfl (any_of HT_.out (by kernel_rfl)) (fun _ _ _ h => h) (Or.inr ⟨by rfl,rfl⟩) ?_ ?_
                  rotate_left
                  ·simp only [Act.put,sA_,s0_,s1_,i64_w,i32_w]
                   rfl
                  refine pure_ (i:=20) (N:=some 76) (v:=?_) (a':=?_) #[true,true,true,true,true,true,true,true,true,true,true,true,true,true,true,true,true,true,true,true,true,false,false,false,false,false,false,false,false,false,false,false] rfl rfl (any_of HT_.out (by kernel_rfl)) (fun _ _ _ h => h) (Or.inl ⟨by rfl, ?_⟩) ?_ ?_
                  rotate_left
                  ·intro w'
                   go_simp
                   with_reducible rfl
                  rotate_left
                  ·simp only [Act.put,sA_,s0_,s1_,i64_w,i32_w]
                   rfl
                  refine pure_ (i:=21) (N:=some 77) (v:=?_) (a':=?_) #[true,true,true,true,true,true,true,true,true,true,true,true,true,true,true,true,true,true,true,true,true,true,false,false,false,false,false,false,false,false,false,false] rfl rfl (any_of HT_.out (by kernel_rfl)) (fun _ _ _ h => h) (Or.inl ⟨by rfl, ?_⟩) ?_ ?_
                  rotate_left
                  ·intro w'
                   go_simp
                   with_reducible rfl
                  rotate_left
                  ·simp only [Act.put,sA_,s0_,s1_,i64_w,i32_w]
                   rfl
                  refine pure_ (i:=22) (N:=some 78) (v:=?_) (a':=?_) #[true,true,true,true,true,true,true,true,true,true,true,true,true,true,true,true,true,true,true,true,true,true,true,false,false,false,false,false,false,false,false,false] rfl rfl (any_of HT_.out (by kernel_rfl)) (fun _ _ _ h => h) (Or.inl ⟨by rfl, ?_⟩) ?_ ?_
                  rotate_left
                  ·intro w'
                   go_simp
                   with_reducible rfl
                  rotate_left
                  ·simp only [Act.put,sA_,s0_,s1_,i64_w,i32_w]
                   rfl
                  refine pure_ (i:=24) (N:=some 80) (v:=?_) (a':=?_) #[true,true,true,true,true,true,true,true,true,true,true,true,true,true,true,true,true,true,true,true,true,true,true,false,true,false,false,false,false,false,false,false] rfl rfl (any_of HT_.out (by kernel_rfl)) (fun _ _ _ h => h) (Or.inl ⟨by rfl, ?_⟩) ?_ ?_
                  rotate_left
                  ·intro w'
                   go_simp
                   with_reducible rfl
                  rotate_left
                  ·simp only [Act.put,sA_,s0_,s1_,i64_w,i32_w]
                   rfl
                  refine pure_ (i:=25) (N:=some 81) (v:=?_) (a':=?_) #[true,true,true,true,true,true,true,true,true,true,true,true,true,true,true,true,true,true,true,true,true,true,true,false,true,true,false,false,false,false,false,false] rfl rfl (any_of HT_.out (by kernel_rfl)) (fun _ _ _ h => h) (Or.inl ⟨by rfl, ?_⟩) ?_ ?_
                  rotate_left
                  ·intro w'
                   go_simp
                   with_reducible rfl
                  rotate_left
                  ·simp only [Act.put,sA_,s0_,s1_,i64_w,i32_w]
                   rfl
                  refine pure_ (i:=26) (N:=some 82) (v:=?_) (a':=?_) #[true,true,true,true,true,true,true,true,true,true,true,true,true,true,true,true,true,true,true,true,true,true,true,false,true,true,true,false,false,false,false,false] rfl rfl (any_of HT_.out (by kernel_rfl)) (fun _ _ _ h => h) (Or.inl ⟨by rfl, ?_⟩) ?_ ?_
                  rotate_left
                  ·intro w'
                   go_simp
                   with_reducible rfl
                  rotate_left
                  ·simp only [Act.put,sA_,s0_,s1_,i64_w,i32_w]
                   rfl
                  refine pure_ (i:=29) (N:=some 85) (v:=?_) (a':=?_) #[true,true,true,true,true,true,true,true,true,true,true,true,true,true,true,true,true,true,true,true,true,true,true,false,true,true,true,false,false,true,false,false] rfl rfl (any_of HT_.out (by kernel_rfl)) (fun _ _ _ h => h) (Or.inl ⟨by rfl, ?_⟩) ?_ ?_
                  rotate_left
                  ·intro w'
                   go_simp
                   with_reducible rfl
                  rotate_left
                  ·simp only [Act.put,sA_,s0_,s1_,i64_w,i32_w]
                   rfl
                  refine take_ (i:=23) (N:=some 79) (v:=?_) (a':=?_) #[true,true,true,true,true,true,true,true,true,true,true,true,true,true,true,true,true,true,true,true,true,true,true,true,true,true,true,false,false,true,false,false] rfl rfl (take_ofW HT_.out HW_.out (by kernel_rfl)) (fun _ _ _ h => h) (Or.inl ⟨by rfl, ?_⟩) hHeld ?_ ?_
                  rotate_left
                  ·rintro w' ⟨s0,s1,s2,s3⟩
                   go_simp
                   with_reducible rfl
                  rotate_left
                  ·simp only [Act.put,sA_,s0_,s1_,i64_w,i32_w]
                   rfl
                  refine take_ (i:=27) (N:=some 83) (v:=?_) (a':=?_) #[true,true,true,true,true,true,true,true,true,true,true,true,true,true,true,true,true,true,true,true,true,true,true,true,true,true,true,true,false,true,false,false] rfl rfl (take_ofW HT_.out HW_.out (by kernel_rfl)) (fun _ _ _ h => h) (Or.inl ⟨by rfl, ?_⟩) hHeld ?_ ?_
                  rotate_left
                  ·rintro w' ⟨s0,s1,s2,s3⟩
                   go_simp
                   with_reducible rfl
                  rotate_left
                  ·simp only [Act.put,sA_,s0_,s1_,i64_w,i32_w]
                   rfl
                  refine one_ (i:=28) (N:=some 84) #[true,true,true,true,true,true,true,true,true,true,true,true,true,true,true,true,true,true,true,true,true,true,true,true,true,true,true,true,true,true,false,false] rfl rfl (one_of HT_.out (by kernel_rfl)) (by decide) (fun K hK => ?_);refine goes_ Try.func29 (by kernel_rfl) rfl #[.agg #[.slice A0_0 l0_0.length c0_0, .slice (some ad155) l0_1.length c0_1], .int .i64 (rd (rd_L1 l0_1 x4_2) x6_4)] (by rfl) rfl rfl (by (try simp only [List.map_toArray,List.map_cons,List.map_nil]);first | done | rfl | (simp only [List.length_drop,List.length_take];rfl)) ?_
                  with_reducible refine (spec_l18Find.calls k4 _ _ l0_0 _ _ l0_1 (rd (rd_L1 l0_1 x4_2) x6_4) t166 _ ?side1 ?side2 ?side3 ?side4 A35.out).mono ?_
                  (case side1 => repeat (first | exact (Kd.C_below HR0_0.out (by repeat (first | (with_reducible first | exact HB.out | apply below_alloc | apply pw_below_drewN | apply below_drew1 | refine below_set ?_ GE153.out) | exact HB.out))) | (with_reducible refine Kd.C_alloc ?_ _) | (with_reducible refine Kd.C_drewN ?_ _) | (with_reducible refine Kd.C_drew ?_)))
                  (case side2 => exact HC0_0.out)
                  (case side3 => repeat (first | exact (Kd.C_below HR0_1.out (by repeat (first | (with_reducible first | exact HB.out | apply below_alloc | apply pw_below_drewN | apply below_drew1 | refine below_set ?_ GE153.out) | exact HB.out))) | (with_reducible refine Kd.C_alloc ?_ _) | (with_reducible refine Kd.C_drewN ?_ _) | (with_reducible refine Kd.C_drew ?_)))
                  (case side4 => exact HC0_1.out)
                  rintro e w40 ⟨rfl,hb⟩;refine ⟨_,rfl, ?_⟩;have n0_:=am_ (blk_below (g:=gb153) (o := .cells #[.slice A0_0 l0_0.length c0_0, .slice (some ad155) l0_1.length c0_1] 27 (0,0)) (by (with_reducible repeat (first | refine blk_drewN ?_ _ | refine blk_drew ?_ | refine blk_alloc ?_ _));exact BK153.out) hb);have n1_:=am_ (below_step (by repeat (first | (with_reducible first | exact HB.out | apply below_alloc | apply pw_below_drewN | apply below_drew1 | refine below_set ?_ GE153.out) | exact HB.out)) hb);clear BK153;clear HB;have BK153:=n0_;have HB:=n1_;clear n0_ n1_;(try clear hb);(try clear hb2);(try clear hk);(try clear hi);refine hK.out _ _ ⟨(blk_cell BK153.out 0).trans rfl,(blk_cell BK153.out 1).trans rfl,((HB.out.cell (World.block_lt_of_cell? w _ hw159_0)).trans hw159_0),((HB.out.cell (World.block_lt_of_cell? w _ hw165_0)).trans hw165_0)⟩ (fun hHeld => ?_);clear hK K;refine norm_ (a':=?_) ?_ ?_
                  rotate_left
                  ·show Act.put _ (some 84) _ = _
                   simp only [Act.put,sA_,s0_,s1_,i64_w,i32_w]
                   rfl
                  refine pure_ (i:=30) (N:=some 86) (v:=?_) (a':=?_) #[true,true,true,true,true,true,true,true,true,true,true,true,true,true,true,true,true,true,true,true,true,true,true,true,true,true,true,true,true,true,true,false] rfl rfl (any_of HT_.out (by kernel_rfl)) (fun _ _ _ h => h) (Or.inl ⟨by rfl, ?_⟩) ?_ ?_
                  rotate_left
                  ·intro w'
                   go_simp
                   with_reducible rfl
                  rotate_left
                  ·simp only [Act.put,sA_,s0_,s1_,i64_w,i32_w]
                   rfl
                  refine pure_ (i:=31) (N:=some 87) (v:=?_) (a':=?_) #[true,true,true,true,true,true,true,true,true,true,true,true,true,true,true,true,true,true,true,true,true,true,true,true,true,true,true,true,true,true,true,true] rfl rfl (any_of HT_.out (by kernel_rfl)) (fun _ _ _ h => h) (Or.inl ⟨by rfl, ?_⟩) ?_ ?_
                  rotate_left
                  ·intro w'
                   go_simp
                   with_reducible rfl
                  rotate_left
                  ·simp only [Act.put,sA_,s0_,s1_,i64_w,i32_w]
                   rfl
                  refine done_ (done_of HT_.out (by kernel_rfl)) ?_
                  try go_wp2
                  go_ret
                  exact ⟨by first | rfl | (simp [errW_none,errW_some] <;> rfl) | (simp [*,errW_none,errW_some] <;> rfl),by repeat (first | (with_reducible first | exact HB.out | apply below_alloc | apply pw_below_drewN | apply below_drew1 | refine below_set ?_ GE153.out) | exact HB.out)⟩
               ·replace c22:=Bool.eq_false_iff.mpr c22;subst c22
                have H1 : (some false) = some r:=by rw [if_neg (show ¬ (false = true) by decide)] at H;exact H
                clear H;have H:=H1;clear H1;obtain rfl:=Option.some.inj H
                try go_wp2
                have n0_:=am_ (blk_drew BK153.out);have n1_:=am_ (below_drew1 HB.out);clear BK153;clear HB;have BK153:=n0_;have HB:=n1_;clear n0_ n1_;have p159 : 0 ≤ (x6_4 : Int):=of_decide_eq_true (by first | (with_reducible assumption) | assumption);have q159 : x6_4 < ((rd_L1 l0_1 x4_2).length : Int):=of_decide_eq_true (by first | (with_reducible assumption) | assumption);obtain ⟨ad159,e159,hx159_0⟩ := Kd.at_int HR155_0.out x6_4 p159 q159;have hw159_0:=hx159_0;cases e159;replace hx159_0:=(HB.out.cell (World.block_lt_of_cell? w _ hx159_0)).trans hx159_0;replace p159:=eq_true p159;replace q159:=eq_true q159
                refine start_ (n:=32) (S:=fun w' => w'.cell? (ad159.add (x6_4).toNat) = some (.int .i64 (rd (rd_L1 l0_1 x4_2) x6_4))) (ds := []) #[false,false,false,false,false,false,false,false,false,false,false,false,false,false,false,false,false,false,false,false,false,false,false,false,false,false,false,false,false,false,false,false] (by kernel_rfl) rfl rfl (((HB.out.cell (World.block_lt_of_cell? w _ hw159_0)).trans hw159_0)) (fun hHeld => ?_);refine with_tabW spec_l18Good.tab13 spec_l18Good.bits13 (fun HT_ HW_ => ?_)
                generalize wr.drew = w41 at BK153 HB hx159_0 hHeld ⊢;refine pure_ (i:=0) (N:=some 56) (v:=?_) (a':=?_) #[true,false,false,false,false,false,false,false,false,false,false,false,false,false,false,false,false,false,false,false,false,false,false,false,false,false,false,false,false,false,false,false] rfl rfl (any_of HT_.out (by kernel_rfl)) (fun _ _ _ h => h) (Or.inl ⟨by rfl, ?_⟩) ?_ ?_
                rotate_left
                ·intro w'
                 go_simp
                 with_reducible rfl
                rotate_left
                ·simp only [Act.put,sA_,s0_,s1_,i64_w,i32_w]
                 rfl
                refine pure_ (i:=1) (N:=some 57) (v:=?_) (a':=?_) #[true,true,false,false,false,false,false,false,false,false,false,false,false,false,false,false,false,false,false,false,false,false,false,false,false,false,false,false,false,false,false,false] rfl rfl (any_of HT_.out (by kernel_rfl)) (fun _ _ _ h => h) (Or.inl ⟨by rfl, ?_⟩) ?_ ?_
                rotate_left
                ·intro w'
                 go_simp
                 with_reducible rfl
                rotate_left
                ·simp only [Act.put,sA_,s0_,s1_,i64_w,i32_w]
                 rfl
                refine pure_ (i:=2) (N:=some 58) (v:=?_) (a':=?_) #[true,true,true,false,false,false,false,false,false,false,false,false,false,false,false,false,false,false,false,false,false,false,false,false,false,false,false,false,false,false,false,false] rfl rfl (any_of HT_.out (by kernel_rfl)) (fun _ _ _ h => h) (Or.inl ⟨by rfl, ?_⟩) ?_ ?_
                rotate_left
                ·intro w'
                 go_simp
                 with_reducible rfl
                rotate_left
                ·simp only [Act.put,sA_,s0_,s1_,i64_w,i32_w]
                 rfl
                refine take_ (i:=3) (N:=some 59) (v:=?_) (a':=?_) #[true,true,true,true,false,false,false,false,false,false,false,false,false,false,false,false,false,false,false,false,false,false,false,false,false,false,false,false,false,false,false,false] rfl rfl (take_ofW HT_.out HW_.out (by kernel_rfl)) (fun _ _ _ h => h) (Or.inl ⟨by rfl, ?_⟩) hHeld ?_ ?_
                rotate_left
                ·intro w' s0
                 go_simp
                 with_reducible rfl
                rotate_left
                ·simp only [Act.put,sA_,s0_,s1_,i64_w,i32_w]
                 rfl
                refine one_ (i:=4) (N:=some 60) #[true,true,true,true,true,false,false,false,false,false,false,false,false,false,false,false,false,false,false,false,false,false,false,false,false,false,false,false,false,false,false,false] rfl rfl (one_of HT_.out (by kernel_rfl)) (by decide) (fun K hK => ?_);refine goes_ Try.func48 (by kernel_rfl) rfl #[.int .i64 (rd (rd_L1 l0_1 x4_2) x6_4), .int .i64 1, .int .i64 99] (by rfl) rfl rfl (by (try simp only [List.map_toArray,List.map_cons,List.map_nil]);first | done | rfl | (simp only [List.length_drop,List.length_take];rfl)) ?_
                with_reducible refine (spec_l1In.calls (rd (rd_L1 l0_1 x4_2) x6_4) 1 99 false _ A21.out).mono ?_
                rintro e w' ⟨rfl,⟨nd,rfl⟩⟩;refine ⟨_,rfl, ?_⟩;refine hK.out _ _ (((HB.out.cell (World.block_lt_of_cell? w _ hw159_0)).trans hw159_0)) (fun hHeld => ?_);clear hK K;refine norm_ (a':=?_) ?_ ?_
                rotate_left
                ·show Act.put _ (some 60) _ = _
                 simp only [Act.put,sA_,s0_,s1_,i64_w,i32_w]
                 rfl
                refine pure_ (i:=5) (N:=some 61) (v:=?_) (a':=?_) #[true,true,true,true,true,true,false,false,false,false,false,false,false,false,false,false,false,false,false,false,false,false,false,false,false,false,false,false,false,false,false,false] rfl rfl (any_of HT_.out (by kernel_rfl)) (fun _ _ _ h => h) (Or.inl ⟨by rfl, ?_⟩) ?_ ?_
                rotate_left
                ·intro w'
                 go_simp
                 with_reducible rfl
                rotate_left
                ·simp only [Act.put,sA_,s0_,s1_,i64_w,i32_w]
                 rfl
                refine pure_ (i:=6) (N:=some 62) (v:=?_) (a':=?_) #[true,true,true,true,true,true,true,false,false,false,false,false,false,false,false,false,false,false,false,false,false,false,false,false,false,false,false,false,false,false,false,false] rfl rfl (any_of HT_.out (by kernel_rfl)) (fun _ _ _ h => h) (Or.inl ⟨by rfl, ?_⟩) ?_ ?_
                rotate_left
                ·intro w'
                 go_simp
                 with_reducible rfl
                rotate_left
                ·simp only [Act.put,sA_,s0_,s1_,i64_w,i32_w]
                 rfl
                refine pure_ (i:=7) (N:=some 63) (v:=undef) (a':=?_) #[true,true,true,true,true,true,true,true,false,false,false,false,false,false,false,false,false,false,false,false,false,false,false,false,false,false,false,false,false,false,false,false] rfl rfl (any_of HT_.out (by kernel_rfl)) (fun _ _ _ h => h) (Or.inr ⟨by rfl,rfl⟩) ?_ ?_
                rotate_left
                ·simp only [Act.put,sA_,s0_,s1_,i64_w,i32_w]
                 rfl
                refine pure_ (i:=8) (N:=some 64) (v:=undef) (a':=?_) #[true,true,true,true,true,true,true,true,true,false,false,false,false,false,false,false,false,false,false,false,false,false,false,false,false,false,false,false,false,false,false,false] rfl rfl (any_of HT_.out (by kernel_rfl)) (fun _ _ _ h => h) (Or.inr ⟨by rfl,rfl⟩) ?_ ?_
                rotate_left
                ·simp only [Act.put,sA_,s0_,s1_,i64_w,i32_w]
                 rfl
                refine pure_ (i:=9) (N:=some 65) (v:=undef) (a':=?_) #[true,true,true,true,true,true,true,true,true,true,false,false,false,false,false,false,false,false,false,false,false,false,false,false,false,false,false,false,false,false,false,false] rfl rfl (any_of HT_.out (by kernel_rfl)) (fun _ _ _ h => h) (Or.inr ⟨by rfl,rfl⟩) ?_ ?_
                rotate_left
                ·simp only [Act.put,sA_,s0_,s1_,i64_w,i32_w]
                 rfl
                refine pure_ (i:=10) (N:=some 66) (v:=undef) (a':=?_) #[true,true,true,true,true,true,true,true,true,true,true,false,false,false,false,false,false,false,false,false,false,false,false,false,false,false,false,false,false,false,false,false] rfl rfl (any_of HT_.out (by kernel_rfl)) (fun _ _ _ h => h) (Or.inr ⟨by rfl,rfl⟩) ?_ ?_
                rotate_left
                ·simp only [Act.put,sA_,s0_,s1_,i64_w,i32_w]
                 rfl
                refine pure_ (i:=11) (N:=some 67) (v:=undef) (a':=?_) #[true,true,true,true,true,true,true,true,true,true,true,true,false,false,false,false,false,false,false,false,false,false,false,false,false,false,false,false,false,false,false,false] rfl rfl (any_of HT_.out (by kernel_rfl)) (fun _ _ _ h => h) (Or.inr ⟨by rfl,rfl⟩) ?_ ?_
                rotate_left
                ·simp only [Act.put,sA_,s0_,s1_,i64_w,i32_w]
                 rfl
                refine pure_ (i:=12) (N:=some 68) (v:=undef) (a':=?_) #[true,true,true,true,true,true,true,true,true,true,true,true,true,false,false,false,false,false,false,false,false,false,false,false,false,false,false,false,false,false,false,false] rfl rfl (any_of HT_.out (by kernel_rfl)) (fun _ _ _ h => h) (Or.inr ⟨by rfl,rfl⟩) ?_ ?_
                rotate_left
                ·simp only [Act.put,sA_,s0_,s1_,i64_w,i32_w]
                 rfl
                refine pure_ (i:=13) (N:=some 69) (v:=undef) (a':=?_) #[true,true,true,true,true,true,true,true,true,true,true,true,true,true,false,false,false,false,false,false,false,false,false,false,false,false,false,false,false,false,false,false] rfl rfl (any_of HT_.out (by kernel_rfl)) (fun _ _ _ h => h) (Or.inr ⟨by rfl,rfl⟩) ?_ ?_
                rotate_left
                ·simp only [Act.put,sA_,s0_,s1_,i64_w,i32_w]
                 rfl
                refine pure_ (i:=14) (N:=some 70) (v:=undef) (a':=?_) #[true,true,true,true,true,true,true,true,true,true,true,true,true,true,true,false,false,false,false,false,false,false,false,false,false,false,false,false,false,false,false,false] rfl rfl (any_of HT_.out (by kernel_rfl)) (fun _ _ _ h => h) (Or.inr ⟨by rfl,rfl⟩) ?_ ?_
                rotate_left
                ·simp only [Act.put,sA_,s0_,s1_,i64_w,i32_w]
                 rfl
                refine pure_ (i:=15) (N:=some 71) (v:=undef) (a':=?_) #[true,true,true,true,true,true,true,true,true,true,true,true,true,true,true,true,false,false,false,false,false,false,false,false,false,false,false,false,false,false,false,false] rfl rfl (any_of HT_.out (by kernel_rfl)) (fun _ _ _ h => h) (Or.inr ⟨by rfl,rfl⟩) ?_ ?_
                rotate_left
                ·simp only [Act.put,sA_,s0_,s1_,i64_w,i32_w]
                 rfl
                refine pure_ (i:=16) (N:=some 72) (v:=undef) (a':=?_) #[true,true,true,true,true,true,true,true,true,true,true,true,true,true,true,true,true,false,false,false,false,false,false,false,false,false,false,false,false,false,false,false] rfl rfl (any_of HT_.out (by kernel_rfl)) (fun _ _ _ h => h) (Or.inr ⟨by rfl,rfl⟩) ?_ ?_
                rotate_left
                ·simp only [Act.put,sA_,s0_,s1_,i64_w,i32_w]
                 rfl
                refine pure_ (i:=17) (N:=some 73) (v:=undef) (a':=?_) #[true,true,true,true,true,true,true,true,true,true,true,true,true,true,true,true,true,true,false,false,false,false,false,false,false,false,false,false,false,false,false,false] rfl rfl (any_of HT_.out (by kernel_rfl)) (fun _ _ _ h => h) (Or.inr ⟨by rfl,rfl⟩) ?_ ?_
                rotate_left
                ·simp only [Act.put,sA_,s0_,s1_,i64_w,i32_w]
                 rfl
                refine pure_ (i:=18) (N:=some 74) (v:=undef) (a':=?_) #[true,true,true,true,true,true,true,true,true,true,true,true,true,true,true,true,true,true,true,false,false,false,false,false,false,false,false,false,false,false,false,false] rfl rfl (any_of HT_.out (by kernel_rfl)) (fun _ _ _ h => h) (Or.inr ⟨by rfl,rfl⟩) ?_ ?_
                rotate_left
                ·simp only [Act.put,sA_,s0_,s1_,i64_w,i32_w]
                 rfl
                refine pure_ (i:=19) (N:=some 75) (v:=undef) (a':=?_) #[true,true,true,true,true,true,true,true,true,true,true,true,true,true,true,true,true,true,true,true,false,false,false,false,false,false,false,false,false,false,false,false] rfl rfl (any_of HT_.out (by kernel_rfl)) (fun _ _ _ h => h) (Or.inr ⟨by rfl,rfl⟩) ?_ ?_
                rotate_left
                ·simp only [Act.put,sA_,s0_,s1_,i64_w,i32_w]
                 rfl
                refine pure_ (i:=20) (N:=some 76) (v:=undef) (a':=?_) #[true,true,true,true,true,true,true,true,true,true,true,true,true,true,true,true,true,true,true,true,true,false,false,false,false,false,false,false,false,false,false,false] rfl rfl (any_of HT_.out (by kernel_rfl)) (fun _ _ _ h => h) (Or.inr ⟨by rfl,rfl⟩) ?_ ?_
                rotate_left
                ·simp only [Act.put,sA_,s0_,s1_,i64_w,i32_w]
                 rfl
                refine pure_ (i:=21) (N:=some 77) (v:=?_) (a':=?_) #[true,true,true,true,true,true,true,true,true,true,true,true,true,true,true,true,true,true,true,true,true,true,false,false,false,false,false,false,false,false,false,false] rfl rfl (any_of HT_.out (by kernel_rfl)) (fun _ _ _ h => h) (Or.inl ⟨by rfl, ?_⟩) ?_ ?_
                rotate_left
                ·intro w'
                 go_simp
                 with_reducible rfl
                rotate_left
                ·simp only [Act.put,sA_,s0_,s1_,i64_w,i32_w]
                 rfl
                refine pure_ (i:=22) (N:=some 78) (v:=?_) (a':=?_) #[true,true,true,true,true,true,true,true,true,true,true,true,true,true,true,true,true,true,true,true,true,true,true,false,false,false,false,false,false,false,false,false] rfl rfl (any_of HT_.out (by kernel_rfl)) (fun _ _ _ h => h) (Or.inl ⟨by rfl, ?_⟩) ?_ ?_
                rotate_left
                ·intro w'
                 go_simp
                 with_reducible rfl
                rotate_left
                ·simp only [Act.put,sA_,s0_,s1_,i64_w,i32_w]
                 rfl
                refine pure_ (i:=23) (N:=some 79) (v:=undef) (a':=?_) #[true,true,true,true,true,true,true,true,true,true,true,true,true,true,true,true,true,true,true,true,true,true,true,true,false,false,false,false,false,false,false,false] rfl rfl (any_of HT_.out (by kernel_rfl)) (fun _ _ _ h => h) (Or.inr ⟨by rfl,rfl⟩) ?_ ?_
                rotate_left
                ·simp only [Act.put,sA_,s0_,s1_,i64_w,i32_w]
                 rfl
                refine pure_ (i:=24) (N:=some 80) (v:=undef) (a':=?_) #[true,true,true,true,true,true,true,true,true,true,true,true,true,true,true,true,true,true,true,true,true,true,true,true,true,false,false,false,false,false,false,false] rfl rfl (any_of HT_.out (by kernel_rfl)) (fun _ _ _ h => h) (Or.inr ⟨by rfl,rfl⟩) ?_ ?_
                rotate_left
                ·simp only [Act.put,sA_,s0_,s1_,i64_w,i32_w]
                 rfl
                refine pure_ (i:=25) (N:=some 81) (v:=undef) (a':=?_) #[true,true,true,true,true,true,true,true,true,true,true,true,true,true,true,true,true,true,true,true,true,true,true,true,true,true,false,false,false,false,false,false] rfl rfl (any_of HT_.out (by kernel_rfl)) (fun _ _ _ h => h) (Or.inr ⟨by rfl,rfl⟩) ?_ ?_
                rotate_left
                ·simp only [Act.put,sA_,s0_,s1_,i64_w,i32_w]
                 rfl
                refine pure_ (i:=26) (N:=some 82) (v:=undef) (a':=?_) #[true,true,true,true,true,true,true,true,true,true,true,true,true,true,true,true,true,true,true,true,true,true,true,true,true,true,true,false,false,false,false,false] rfl rfl (any_of HT_.out (by kernel_rfl)) (fun _ _ _ h => h) (Or.inr ⟨by rfl,rfl⟩) ?_ ?_
                rotate_left
                ·simp only [Act.put,sA_,s0_,s1_,i64_w,i32_w]
                 rfl
                refine pure_ (i:=27) (N:=some 83) (v:=undef) (a':=?_) #[true,true,true,true,true,true,true,true,true,true,true,true,true,true,true,true,true,true,true,true,true,true,true,true,true,true,true,true,false,false,false,false] rfl rfl (any_of HT_.out (by kernel_rfl)) (fun _ _ _ h => h) (Or.inr ⟨by rfl,rfl⟩) ?_ ?_
                rotate_left
                ·simp only [Act.put,sA_,s0_,s1_,i64_w,i32_w]
                 rfl
                refine pure_ (i:=28) (N:=some 84) (v:=undef) (a':=?_) #[true,true,true,true,true,true,true,true,true,true,true,true,true,true,true,true,true,true,true,true,true,true,true,true,true,true,true,true,true,false,false,false] rfl rfl (any_of HT_.out (by kernel_rfl)) (fun _ _ _ h => h) (Or.inr ⟨by rfl,rfl⟩) ?_ ?_
                rotate_left
                ·simp only [Act.put,sA_,s0_,s1_,i64_w,i32_w]
                 rfl
                refine pure_ (i:=29) (N:=some 85) (v:=undef) (a':=?_) #[true,true,true,true,true,true,true,true,true,true,true,true,true,true,true,true,true,true,true,true,true,true,true,true,true,true,true,true,true,true,false,false] rfl rfl (any_of HT_.out (by kernel_rfl)) (fun _ _ _ h => h) (Or.inr ⟨by rfl,rfl⟩) ?_ ?_
                rotate_left
                ·simp only [Act.put,sA_,s0_,s1_,i64_w,i32_w]
                 rfl
                refine pure_ (i:=30) (N:=some 86) (v:=undef) (a':=?_) #[true,true,true,true,true,true,true,true,true,true,true,true,true,true,true,true,true,true,true,true,true,true,true,true,true,true,true,true,true,true,true,false] rfl rfl (any_of HT_.out (by kernel_rfl)) (fun _ _ _ h => h) (Or.inr ⟨by rfl,rfl⟩) ?_ ?_
                rotate_left
                ·simp only [Act.put,sA_,s0_,s1_,i64_w,i32_w]
                 rfl
                refine pure_ (i:=31) (N:=some 87) (v:=?_) (a':=?_) #[true,true,true,true,true,true,true,true,true,true,true,true,true,true,true,true,true,true,true,true,true,true,true,true,true,true,true,true,true,true,true,true] rfl rfl (any_of HT_.out (by kernel_rfl)) (fun _ _ _ h => h) (Or.inl ⟨by rfl, ?_⟩) ?_ ?_
                rotate_left
                ·intro w'
                 go_simp
                 with_reducible rfl
                rotate_left
                ·simp only [Act.put,sA_,s0_,s1_,i64_w,i32_w]
                 rfl
                refine done_ (done_of HT_.out (by kernel_rfl)) ?_
                try go_wp2
                go_ret
                exact ⟨by first | rfl | (simp [errW_none,errW_some] <;> rfl) | (simp [*,errW_none,errW_some] <;> rfl),by repeat (first | (with_reducible first | exact HB.out | apply below_alloc | apply pw_below_drewN | apply below_drew1 | refine below_set ?_ GE153.out) | exact HB.out)⟩
              ·rw [if_neg c20] at H
               exact absurd H (by simp)
             ·rw [if_neg c19] at H;have c19b0 : decide (x6_4 < ((rd_L1 l0_1 x4_2).length : Int)) = false:=decide_eq_false c19;clear c19;have H':=am_ H;clear H
              go_wp2
              go_roundg k4
              case measure => have:=HJ1.out;have:=HK2.out;have:=HJ10.out;have:=HK4.out;omega
              case rel => exact ⟨(wrap64 (x3_2 + ((rd_L1 l0_1 x4_2).length : Int))),(wrap64 (x4_2 + 1)),(by first | rfl | (simp;done) | (simp [*];done)),(by first | rfl | (simp;done) | (simp [*];done)),H',⟨by have:=HJ1.out;have:=HK2.out;have:=HJ10.out;have:=HK4.out;omega⟩,⟨by (with_reducible repeat (first | refine blk_drewN ?_ _ | refine blk_drew ?_ | refine blk_alloc ?_ _));exact BK153.out⟩,⟨by repeat (first | (with_reducible first | exact HB.out | apply below_alloc | apply pw_below_drewN | apply below_drew1 | refine below_set ?_ GE153.out) | exact HB.out)⟩⟩
       ·rw [if_neg c10] at H
        exact absurd H (by simp)
      ·rw [if_neg c9] at H;have c9b0 : decide (x4_2 < (l0_1.length : Int)) = false:=decide_eq_false c9;clear c9;obtain rfl:=Option.some.inj H;have hcz42_0:=c2_0 BK153.out;have hcz42_1:=c2_1 BK153.out;have hfz42_0:=blk_frozen BK153.out 0;have hfz42_1:=blk_frozen BK153.out 1
       go_wp2
       go_ret
       exact ⟨by first | rfl | (simp [errW_none,errW_some] <;> rfl) | (simp [*,errW_none,errW_some] <;> rfl),by repeat (first | (with_reducible first | exact HB.out | apply below_alloc | apply pw_below_drewN | apply below_drew1 | refine below_set ?_ GE153.out) | exact HB.out)⟩

end Go.Proofs.Ytcpoiklimbfppaa.PFnExactBookEarliest
