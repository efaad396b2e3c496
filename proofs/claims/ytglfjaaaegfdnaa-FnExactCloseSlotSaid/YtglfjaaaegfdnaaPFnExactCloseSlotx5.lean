-- Written by a program of this session, over the kit's print (wip/xprint.py)
import Derived.Test.YtglfjaaaegfdnaaPFnExactCloseSlotx0
import Derived.Test.YtglfjaaaegfdnaaPFnExactCloseSlotx4
namespace Go.Proofs.Ytglfjaaaegfdnaa.PFnExactCloseSlot
open Go.RowKit Go.Proofs.YtglfjaaaegfdnaaW.PrintWords Go.Proofs.YtglfjaaaegfdnaaW.PrintLast Go.Proofs.YtglfjaaaegfdnaaW.PrintMore
attribute [local go_sem] max2_int min2_int max_two min_two max_three min_three max_four min_four   -- for this text's walks alone
set_option linter.unusedVariables false
set_option linter.unusedSimpArgs false

/-! ### spec_l18Good: function 46 -/
mutual
def spec_l18Good.j0 : Nat → Bool → List Int → List (List Int) → Option (Bool)
 | 0,_,_,_ => none
 | k + 1,x20,x177000,x177001 => if x20 = true then (some false) else (spec_l18Good.l0 k 0 0 x177000 x177001)
def spec_l18Good.l0 : Nat → Int → Int → List Int → List (List Int) → Option (Bool)
 | 0,_,_,_,_ => none
 | k + 1,x3,x4,x177000,x177001 => if x4 < (x177001.length : Int) then (if 0 ≤ x4 then (if x4 < (x177000.length : Int) then ((spec_l1In.f (rd x177000 x4) 0 6).bind fun t180 => (if t180 = true then (spec_l18Good.j2 k x3 x4 (rd_L1 x177001 x4) (decide (((rd_L1 x177001 x4).length : Int) > (rd x177000 x4))) x177000 x177001) else (spec_l18Good.j2 k x3 x4 (rd_L1 x177001 x4) true x177000 x177001))) else (none)) else (none)) else (some (decide (x3 ≤ 30)))
def spec_l18Good.j2 : Nat → Int → Int → List Int → Bool → List Int → List (List Int) → Option (Bool)
 | 0,_,_,_,_,_,_ => none
 | k + 1,x3,x4,x5,x49,x177000,x177001 => if x49 = true then (some false) else (spec_l18Good.l1 k x3 x4 x5 0 x177000 x177001)
def spec_l18Good.l1 : Nat → Int → Int → List Int → Int → List Int → List (List Int) → Option (Bool)
 | 0,_,_,_,_,_,_ => none
 | k + 1,x3,x4,x5,x6,x177000,x177001 => if x6 < (x5.length : Int) then (if 0 ≤ x6 then ((spec_l1In.f (rd x5 x6) 1 99).bind fun t183 => (if t183 = true then (if x6 > 0 then (if 0 ≤ (wrap64 (x6 - 1)) then (if (wrap64 (x6 - 1)) < (x5.length : Int) then (if (rd x5 (wrap64 (x6 - 1))) ≥ (rd x5 x6) then (some false) else ((spec_l18Find.f k x177000 x177001 (rd x5 x6)).bind fun t187 => (if t187 = x4 then (spec_l18Good.l1 k x3 x4 x5 (wrap64 (x6 + 1)) x177000 x177001) else (some false)))) else (none)) else (none)) else ((spec_l18Find.f k x177000 x177001 (rd x5 x6)).bind fun t189 => (if t189 = x4 then (spec_l18Good.l1 k x3 x4 x5 (wrap64 (x6 + 1)) x177000 x177001) else (some false)))) else (some false))) else (none)) else (spec_l18Good.l0 k (wrap64 (x3 + (x5.length : Int))) (wrap64 (x4 + 1)) x177000 x177001)
end
def spec_l18Good.f (k : Nat) (l0_0 : List Int) (l0_1 : List (List Int)) : Option (Bool):=(spec_l1In.f (l0_0.length : Int) 1 12).bind fun t177 => (if t177 = true then (spec_l18Good.j0 k ((l0_1.length : Int) != (l0_0.length : Int)) l0_0 l0_1) else (spec_l18Good.j0 k true l0_0 l0_1))
theorem spec_l18Good.mono_l : ∀ k,(∀ y0 y1 y2,LeO (spec_l18Good.j0 k y0 y1 y2) (spec_l18Good.j0 (k + 1) y0 y1 y2)) ∧ (∀ y0 y1 y2 y3,LeO (spec_l18Good.l0 k y0 y1 y2 y3) (spec_l18Good.l0 (k + 1) y0 y1 y2 y3)) ∧ (∀ y0 y1 y2 y3 y4 y5,LeO (spec_l18Good.j2 k y0 y1 y2 y3 y4 y5) (spec_l18Good.j2 (k + 1) y0 y1 y2 y3 y4 y5)) ∧ (∀ y0 y1 y2 y3 y4 y5,LeO (spec_l18Good.l1 k y0 y1 y2 y3 y4 y5) (spec_l18Good.l1 (k + 1) y0 y1 y2 y3 y4 y5))
 | 0 => ⟨fun _ _ _ r h => by simp [spec_l18Good.j0] at h,fun _ _ _ _ r h => by simp [spec_l18Good.l0] at h,fun _ _ _ _ _ _ r h => by simp [spec_l18Good.j2] at h,fun _ _ _ _ _ _ r h => by simp [spec_l18Good.l1] at h⟩
 | k + 1 => by
  obtain ⟨ih0,ih1,ih2,ih3⟩ := spec_l18Good.mono_l k;refine ⟨?_, ?_, ?_, ?_⟩
  ·intro y0 y1 y2
   unfold spec_l18Good.j0
   repeat' first
   | (with_reducible exact ih0 _ _ _)
   | (with_reducible exact ih1 _ _ _ _)
   | (with_reducible exact ih2 _ _ _ _ _ _)
   | (with_reducible exact ih3 _ _ _ _ _ _)
   | (with_reducible exact spec_l18Find.mono _ _ _ _)
   | (with_reducible exact LeO.refl _)
   | (with_reducible exact LeO.none _)
   | (with_reducible refine LeO.ite ?_ ?_)
   | (with_reducible refine LeO.bind ?_ (fun _ => ?_))
   | exact ih0 _ _ _
   | exact ih1 _ _ _ _
   | exact ih2 _ _ _ _ _ _
   | exact ih3 _ _ _ _ _ _
   | exact spec_l18Find.mono _ _ _ _
   | exact LeO.none _
   | refine LeO.ite ?_ ?_
   | refine LeO.bind ?_ (fun _ => ?_)
  ·intro y0 y1 y2 y3
   unfold spec_l18Good.l0
   repeat' first
   | (with_reducible exact ih0 _ _ _)
   | (with_reducible exact ih1 _ _ _ _)
   | (with_reducible exact ih2 _ _ _ _ _ _)
   | (with_reducible exact ih3 _ _ _ _ _ _)
   | (with_reducible exact spec_l18Find.mono _ _ _ _)
   | (with_reducible exact LeO.refl _)
   | (with_reducible exact LeO.none _)
   | (with_reducible refine LeO.ite ?_ ?_)
   | (with_reducible refine LeO.bind ?_ (fun _ => ?_))
   | exact ih0 _ _ _
   | exact ih1 _ _ _ _
   | exact ih2 _ _ _ _ _ _
   | exact ih3 _ _ _ _ _ _
   | exact spec_l18Find.mono _ _ _ _
   | exact LeO.none _
   | refine LeO.ite ?_ ?_
   | refine LeO.bind ?_ (fun _ => ?_)
  ·intro y0 y1 y2 y3 y4 y5
   unfold spec_l18Good.j2
   repeat' first
   | (with_reducible exact ih0 _ _ _)
   | (with_reducible exact ih1 _ _ _ _)
   | (with_reducible exact ih2 _ _ _ _ _ _)
   | (with_reducible exact ih3 _ _ _ _ _ _)
   | (with_reducible exact spec_l18Find.mono _ _ _ _)
   | (with_reducible exact LeO.refl _)
   | (with_reducible exact LeO.none _)
   | (with_reducible refine LeO.ite ?_ ?_)
   | (with_reducible refine LeO.bind ?_ (fun _ => ?_))
   | exact ih0 _ _ _
   | exact ih1 _ _ _ _
   | exact ih2 _ _ _ _ _ _
   | exact ih3 _ _ _ _ _ _
   | exact spec_l18Find.mono _ _ _ _
   | exact LeO.none _
   | refine LeO.ite ?_ ?_
   | refine LeO.bind ?_ (fun _ => ?_)
  ·intro y0 y1 y2 y3 y4 y5
   unfold spec_l18Good.l1
   repeat' first
   | (with_reducible exact ih0 _ _ _)
   | (with_reducible exact ih1 _ _ _ _)
   | (with_reducible exact ih2 _ _ _ _ _ _)
   | (with_reducible exact ih3 _ _ _ _ _ _)
   | (with_reducible exact spec_l18Find.mono _ _ _ _)
   | (with_reducible exact LeO.refl _)
   | (with_reducible exact LeO.none _)
   | (with_reducible refine LeO.ite ?_ ?_)
   | (with_reducible refine LeO.bind ?_ (fun _ => ?_))
   | exact ih0 _ _ _
   | exact ih1 _ _ _ _
   | exact ih2 _ _ _ _ _ _
   | exact ih3 _ _ _ _ _ _
   | exact spec_l18Find.mono _ _ _ _
   | exact LeO.none _
   | refine LeO.ite ?_ ?_
   | refine LeO.bind ?_ (fun _ => ?_)
theorem spec_l18Good.mono : ∀ a0 a1 k,LeO (spec_l18Good.f k a0 a1) (spec_l18Good.f (k + 1) a0 a1):=by
 intro a0 a1 k;obtain ⟨ih0,ih1,ih2,ih3⟩ := spec_l18Good.mono_l k
 unfold spec_l18Good.f
 repeat' first
   | (with_reducible exact ih0 _ _ _)
   | (with_reducible exact ih1 _ _ _ _)
   | (with_reducible exact ih2 _ _ _ _ _ _)
   | (with_reducible exact ih3 _ _ _ _ _ _)
   | (with_reducible exact spec_l18Find.mono _ _ _ _)
   | (with_reducible exact LeO.refl _)
   | (with_reducible exact LeO.none _)
   | (with_reducible refine LeO.ite ?_ ?_)
   | (with_reducible refine LeO.bind ?_ (fun _ => ?_))
   | exact ih0 _ _ _
   | exact ih1 _ _ _ _
   | exact ih2 _ _ _ _ _ _
   | exact ih3 _ _ _ _ _ _
   | exact spec_l18Find.mono _ _ _ _
   | exact LeO.none _
   | refine LeO.ite ?_ ?_
   | refine LeO.bind ?_ (fun _ => ?_)
def spec_l18Good.T13 : Bool × List (List Nat × List Nat):=(true,[([],[]),([],[]),([0,1],[0,1]),([2],[2]),([3],[3]),([4],[4]),([5,4],[5]),([6],[6]),([7,6],[6,7]),([8,6,6],[6,8]),([9],[9]),([9],[9]),([11,9],[9,11]),([10,12,9],[9,10,12]),([13,9],[9,13]),([9],[9]),([9],[9]),([15,16,9],[9,15,16]),([17,9],[9,17]),([14,18,9],[9,14,18]),([9,19,6],[6,9,19]),([6,20],[6,20]),([21,9],[21]),([22],[22]),([22],[22]),([22],[22]),([24,25,22],[22,24,25]),([26,22],[22,26]),([23,27,22,22],[22,23,27]),([22],[22]),([28,29,22],[22,28,29]),([22,30],[22,30])])
def spec_l18Good.B13 : List Nat := [0,0,3,7,15,31,63,127,255,511,1023,1023,3071,8191,16383,1023,1023,99327,230399,524287,1048575,2097151,4194303,8388607,8388607,8388607,58720255,125829119,268435455,8388607,1073741823,2147483647]
theorem spec_l18Good.tab13 : rtab .any (opsOf Try.f46 13) = spec_l18Good.T13:=by kernel_rfl
theorem spec_l18Good.bits13 : waitsOk spec_l18Good.T13.2 spec_l18Good.B13 = true:=by kernel_rfl
set_option maxHeartbeats 8000000 in
set_option maxRecDepth 100000 in
theorem spec_l18Good.calls (k : Nat) (A0_0 : Option Addr) (c0_0 : Nat) (l0_0 : List Int) (A0_1 : Option Addr) (c0_1 : Nat) (l0_1 : List (List Int)) (r : Bool) (w : World) (hr0_0 : Kd.C (Kd.int .i64) w A0_0 l0_0.length l0_0) (hc0_0 : l0_0.length ≤ c0_0) (hr0_1 : Kd.C (Kd.slice 3 (Kd.int .i64)) w A0_1 l0_1.length l0_1) (hc0_1 : l0_1.length ≤ c0_1) (h : spec_l18Good.f k l0_0 l0_1 = some r) :
  Calls Try.prog 46 #[.agg #[.slice A0_0 l0_0.length c0_0, .slice A0_1 l0_1.length c0_1]] w fun e w' => e = .returned (.bool r) ∧ Below w.heap.size w w':=by
 have hu27:=Try.underlying27;have HR0_0:=am_ hr0_0;have HC0_0:=am_ hc0_0;clear hr0_0 hc0_0;have HR0_1:=am_ hr0_1;have HC0_1:=am_ hc0_1;clear hr0_1 hc0_1;have HB:=am_ (Below.refl w.heap.size w);have H : ((spec_l1In.f (l0_0.length : Int) 1 12).bind fun t177 => (if t177 = true then (spec_l18Good.j0 k ((l0_1.length : Int) != (l0_0.length : Int)) l0_0 l0_1) else (spec_l18Good.j0 k true l0_0 l0_1))) = some r:=h;clear h;have HC2:=am_ H;clear H
 go_enter Try.func46,Try.ntmps46
 go_upto_region 1 with (first | ((with_reducible refine gate_dst (N:=1) rfl ?_);(try (refine gate_guard (by rfl) ?_;dsimp only));refine box_event ?hg (N:=1) ?hd (cs:=#[.slice A0_0 l0_0.length c0_0, .slice A0_1 l0_1.length c0_1]) (t:=27) ?hr ?_;(case hd => rfl);(case hg => rfl);(case hr => first | (go_simp;done) | (go_simp;rfl));intro gb176 hg w3 hbox hb;have n0_:=am_ (below_step (by repeat (first | (with_reducible first | exact HB.out | apply below_alloc | apply pw_below_drewN | apply below_drew1) | exact HB.out)) hb);have n1_:=am_ hbox;have n2_:=am_ ((by rw [hg];exact (below_size (by repeat (first | (with_reducible first | exact HB.out | apply below_alloc | apply pw_below_drewN | apply below_drew1) | exact HB.out))) : w.heap.size ≤ gb176));have n3_:=am_ ((by rw [hg];exact (below_size (by repeat (first | (with_reducible first | exact HB.out | apply below_alloc | apply pw_below_drewN | apply below_drew1) | exact HB.out))) : w.heap.size ≤ gb176));clear HB;have HB:=n0_;have BK176:=n1_;have GW176:=n2_;have GE176:=n3_;clear n0_ n1_ n2_ n3_;clear hb hbox hg))
 (try simp only [Act.put,sA_,s0_,s1_])
 go_cut [20] (fun v20 wc => ∃ (kq : Nat) (x20_1 : Bool),v20 = .bool x20_1 ∧ Aside0 (spec_l18Good.j0 kq x20_1 l0_0 l0_1 = some r) ∧ Aside0 (kq ≤ k) ∧ Aside0 (wc.heap[gb176]? = some (.cells #[(.slice A0_0 l0_0.length c0_0),(.slice A0_1 l0_1.length c0_1)] 27 (0,0))) ∧ Aside0 (Below w.heap.size w wc))
 case first =>
  have H:=HC2.out;clear HC2;replace H:=Option.bind_eq_some_iff.mp H;obtain ⟨t177,A40,H⟩ := H;replace H : (if t177 = true then (spec_l18Good.j0 k ((l0_1.length : Int) != (l0_0.length : Int)) l0_0 l0_1) else (spec_l18Good.j0 k true l0_0 l0_1)) = some r:=H;have A4:=am_ A40;clear A40
  by_cases c5 : t177 = true
  ·subst c5
   have H1 : (spec_l18Good.j0 k ((l0_1.length : Int) != (l0_0.length : Int)) l0_0 l0_1) = some r:=by rw [if_pos rfl] at H;exact H
   clear H;have H:=H1;clear H1;have H':=am_ H;clear H;have hcz6_0:=c2_0 BK176.out;have hcz6_1:=c2_1 BK176.out;have hfz6_0:=blk_frozen BK176.out 0;have hfz6_1:=blk_frozen BK176.out 1
   go_wp2_with (first | ((with_reducible refine gate_callee (f:=81) rfl ?_);refine goesL_ (some 10) rfl rfl Try.func81 (by kernel_rfl) rfl #[.int .i64 (l0_0.length : Int), .int .i64 1, .int .i64 12] rfl (by (try simp only [List.map_toArray,List.map_cons,List.map_nil]);first | done | rfl | (simp only [List.length_drop,List.length_take];rfl)) ?_;(with_reducible refine (spec_l1In.calls (l0_0.length : Int) 1 12 true _ A4.out).mono ?_);rintro e w' ⟨rfl,⟨nd,rfl⟩⟩;refine ⟨_,rfl, ?_⟩))
   go_meet
   case rel => exact ⟨_,(((l0_1.length : Int) != (l0_0.length : Int))),(by first | rfl | (simp;done) | (simp [*];done)),H',⟨by first | omega | exact Nat.le_refl _⟩,⟨by (with_reducible repeat (first | refine blk_drewN ?_ _ | refine blk_drew ?_ | refine blk_alloc ?_ _));exact BK176.out⟩,⟨by repeat (first | (with_reducible first | exact HB.out | apply below_alloc | apply pw_below_drewN | apply below_drew1 | refine below_set ?_ GE176.out) | exact HB.out)⟩⟩
  ·replace c5:=Bool.eq_false_iff.mpr c5;subst c5
   have H1 : (spec_l18Good.j0 k true l0_0 l0_1) = some r:=by rw [if_neg (show ¬ (false = true) by decide)] at H;exact H
   clear H;have H:=H1;clear H1;have H':=am_ H;clear H;have hcz7_0:=c2_0 BK176.out;have hcz7_1:=c2_1 BK176.out;have hfz7_0:=blk_frozen BK176.out 0;have hfz7_1:=blk_frozen BK176.out 1
   go_wp2_with (first | ((with_reducible refine gate_callee (f:=81) rfl ?_);refine goesL_ (some 10) rfl rfl Try.func81 (by kernel_rfl) rfl #[.int .i64 (l0_0.length : Int), .int .i64 1, .int .i64 12] rfl (by (try simp only [List.map_toArray,List.map_cons,List.map_nil]);first | done | rfl | (simp only [List.length_drop,List.length_take];rfl)) ?_;(with_reducible refine (spec_l1In.calls (l0_0.length : Int) 1 12 false _ A4.out).mono ?_);rintro e w' ⟨rfl,⟨nd,rfl⟩⟩;refine ⟨_,rfl, ?_⟩))
   go_meet
   case rel => exact ⟨_,(true),(by first | rfl | (simp;done) | (simp [*];done)),H',⟨by first | omega | exact Nat.le_refl _⟩,⟨by (with_reducible repeat (first | refine blk_drewN ?_ _ | refine blk_drew ?_ | refine blk_alloc ?_ _));exact BK176.out⟩,⟨by repeat (first | (with_reducible first | exact HB.out | apply below_alloc | apply pw_below_drewN | apply below_drew1 | refine below_set ?_ GE176.out) | exact HB.out)⟩⟩
 case rest =>
  clear HC2;(try clear p2);(try clear c4);(try clear c5);(try clear hcz6_0);(try clear hcz6_1);(try clear hcz7_0);(try clear hcz7_1);(try clear hfz6_0);(try clear hfz6_1);(try clear hfz7_0);(try clear hfz7_1);obtain ⟨kq,x20_1,rfl,HA,HJ1,BK176,HB⟩ := hcut
  cases kq with
  | zero => exact absurd HA.out (by simp [spec_l18Good.j0])
  | succ kj1 =>
   have H:=HA.out;clear HA;simp only [spec_l18Good.j0] at H
   by_cases c8 : x20_1 = true
   ·subst c8
    have H1 : (some false) = some r:=by rw [if_pos rfl] at H;exact H
    clear H;have H:=H1;clear H1;obtain rfl:=Option.some.inj H
    go_wp2
    go_ret
    exact ⟨by first | rfl | (simp [errW_none,errW_some] <;> rfl) | (simp [*,errW_none,errW_some] <;> rfl),by repeat (first | (with_reducible first | exact HB.out | apply below_alloc | apply pw_below_drewN | apply below_drew1 | refine below_set ?_ GE176.out) | exact HB.out)⟩
   ·replace c8:=Bool.eq_false_iff.mpr c8;subst c8
    have H1 : (spec_l18Good.l0 kj1 0 0 l0_0 l0_1) = some r:=by rw [if_neg (show ¬ (false = true) by decide)] at H;exact H
    clear H;have H:=H1;clear H1;have H':=am_ H;clear H
    go_wp2
    (try simp only [Act.put,sA_,s0_,s1_])
    go_loopg [3,4] kj1 (fun kq v3 v4 w' => ∃ (x3_2 : Int) (x4_2 : Int),v3 = .int .i64 x3_2 ∧ v4 = .int .i64 x4_2 ∧ Aside0 (spec_l18Good.l0 kq x3_2 x4_2 l0_0 l0_1 = some r) ∧ Aside0 (kq ≤ kj1) ∧ Aside0 (w'.heap[gb176]? = some (.cells #[(.slice A0_0 l0_0.length c0_0),(.slice A0_1 l0_1.length c0_1)] 27 (0,0))) ∧ Aside0 (Below w.heap.size w w'))
    case atStart => exact ⟨(0),(0),(by first | rfl | (simp;done) | (simp [*];done)),(by first | rfl | (simp;done) | (simp [*];done)),H',⟨Nat.le_refl _⟩,⟨by (with_reducible repeat (first | refine blk_drewN ?_ _ | refine blk_drew ?_ | refine blk_alloc ?_ _));exact BK176.out⟩,⟨by repeat (first | (with_reducible first | exact HB.out | apply below_alloc | apply pw_below_drewN | apply below_drew1 | refine below_set ?_ GE176.out) | exact HB.out)⟩⟩
    case round =>
     clear H';(try clear p2);(try clear c4);(try clear c5);(try clear c8);(try clear hcz6_0);(try clear hcz6_1);(try clear hcz7_0);(try clear hcz7_1);(try clear hfz6_0);(try clear hfz6_1);(try clear hfz7_0);(try clear hfz7_1);(try clear p2);obtain ⟨x3_2,x4_2,rfl,rfl,HA,HK2,BK176,HB⟩ := hrel
     cases gk with
     | zero => exact absurd HA.out (by simp [spec_l18Good.l0])
     | succ k2 =>
      have H:=HA.out;clear HA;simp only [spec_l18Good.l0] at H
      by_cases c9 : x4_2 < (l0_1.length : Int)
      ·rw [if_pos c9] at H;have c9b0 : decide (x4_2 < (l0_1.length : Int)) = true:=decide_eq_true c9;clear c9
       by_cases c10 : 0 ≤ x4_2
       ·rw [if_pos c10] at H;have c10b0 : decide (0 ≤ x4_2) = true:=decide_eq_true c10;clear c10;have HC11:=am_ H;clear H;have hcz12_0:=c2_0 BK176.out;have hcz12_1:=c2_1 BK176.out;have hfz12_0:=blk_frozen BK176.out 0;have hfz12_1:=blk_frozen BK176.out 1;have p178 : 0 ≤ (x4_2 : Int):=of_decide_eq_true (by first | (with_reducible assumption) | assumption);have q178 : x4_2 < (l0_1.length : Int):=of_decide_eq_true (by first | (with_reducible assumption) | assumption);obtain ⟨ad178,A178_0,c178_0,e178,hx178_0,hl178_0,hi178_0⟩ := at_L1 HR0_1.out x4_2 p178 q178;cases e178;replace hx178_0:=(HB.out.cell (World.block_lt_of_cell? w _ hx178_0)).trans hx178_0;have HR178_0:=am_ hi178_0;have HC178_0:=am_ hl178_0;clear hi178_0 hl178_0;replace p178:=eq_true p178;replace q178:=eq_true q178
        go_upto_region 8 with (fail)
        go_cut [49] (fun v49 wc => ∃ (kq : Nat) (x49_10 : Bool),v49 = .bool x49_10 ∧ Aside0 (spec_l18Good.j2 kq x3_2 x4_2 (rd_L1 l0_1 x4_2) x49_10 l0_0 l0_1 = some r) ∧ Aside0 (kq ≤ k2) ∧ Aside0 (wc.heap[gb176]? = some (.cells #[(.slice A0_0 l0_0.length c0_0),(.slice (some ad178) l0_1.length c0_1)] 27 (0,0))) ∧ Aside0 (Below w.heap.size w wc))
        case first =>
         have H:=HC11.out;clear HC11
         by_cases c13 : x4_2 < (l0_0.length : Int)
         ·rw [if_pos c13] at H;have c13b0 : decide (x4_2 < (l0_0.length : Int)) = true:=decide_eq_true c13;clear c13
          (first | rw [c13b0] | (simp only [i64_w,i32_w];rw [c13b0]) | skip)
          replace H:=Option.bind_eq_some_iff.mp H;obtain ⟨t180,A140,H⟩ := H;replace H : (if t180 = true then (spec_l18Good.j2 k2 x3_2 x4_2 (rd_L1 l0_1 x4_2) (decide (((rd_L1 l0_1 x4_2).length : Int) > (rd l0_0 x4_2))) l0_0 l0_1) else (spec_l18Good.j2 k2 x3_2 x4_2 (rd_L1 l0_1 x4_2) true l0_0 l0_1)) = some r:=H;have A14:=am_ A140;clear A140
          by_cases c15 : t180 = true
          ·subst c15
           have H1 : (spec_l18Good.j2 k2 x3_2 x4_2 (rd_L1 l0_1 x4_2) (decide (((rd_L1 l0_1 x4_2).length : Int) > (rd l0_0 x4_2))) l0_0 l0_1) = some r:=by rw [if_pos rfl] at H;exact H
           clear H;have H:=H1;clear H1;have H':=am_ H;clear H;have hcz16_0:=c2_0 BK176.out;have hcz16_1:=c2_1 BK176.out;have hfz16_0:=blk_frozen BK176.out 0;have hfz16_1:=blk_frozen BK176.out 1;have p179 : 0 ≤ (x4_2 : Int):=of_decide_eq_true (by first | (with_reducible assumption) | assumption);have q179 : x4_2 < (l0_0.length : Int):=of_decide_eq_true (by first | (with_reducible assumption) | assumption);obtain ⟨ad179,e179,hx179_0⟩ := Kd.at_int HR0_0.out x4_2 p179 q179;cases e179;replace hx179_0:=(HB.out.cell (World.block_lt_of_cell? w _ hx179_0)).trans hx179_0;replace p179:=eq_true p179;replace q179:=eq_true q179
           go_wp2_with (first | ((with_reducible refine gate_callee (f:=81) rfl ?_);refine goesL_ (some 38) rfl rfl Try.func81 (by kernel_rfl) rfl #[.int .i64 (rd l0_0 x4_2), .int .i64 0, .int .i64 6] rfl (by (try simp only [List.map_toArray,List.map_cons,List.map_nil]);first | done | rfl | (simp only [List.length_drop,List.length_take];rfl)) ?_;(with_reducible refine (spec_l1In.calls (rd l0_0 x4_2) 0 6 true _ A14.out).mono ?_);rintro e w' ⟨rfl,⟨nd,rfl⟩⟩;refine ⟨_,rfl, ?_⟩;have p181 : 0 ≤ (x4_2 : Int):=of_decide_eq_true (by first | (with_reducible assumption) | assumption);have q181 : x4_2 < (l0_0.length : Int):=of_decide_eq_true (by first | (with_reducible assumption) | assumption);obtain ⟨ad181,e181,hx181_0⟩ := Kd.at_int HR0_0.out x4_2 p181 q181;obtain rfl : ad179 = ad181:=(by injection e181);replace hx181_0:=(HB.out.cell (World.block_lt_of_cell? w _ hx181_0)).trans hx181_0;replace p181:=eq_true p181;replace q181:=eq_true q181))
           go_meet
           case rel => exact ⟨_,(decide (((rd_L1 l0_1 x4_2).length : Int) > (rd l0_0 x4_2))),(by first | rfl | (simp;done) | (simp [*];done)),H',⟨by have:=HJ1.out;have:=HK2.out;first | omega | exact Nat.le_refl _⟩,⟨by (with_reducible repeat (first | refine blk_drewN ?_ _ | refine blk_drew ?_ | refine blk_alloc ?_ _));exact BK176.out⟩,⟨by repeat (first | (with_reducible first | exact HB.out | apply below_alloc | apply pw_below_drewN | apply below_drew1 | refine below_set ?_ GE176.out) | exact HB.out)⟩⟩
          ·replace c15:=Bool.eq_false_iff.mpr c15;subst c15
           have H1 : (spec_l18Good.j2 k2 x3_2 x4_2 (rd_L1 l0_1 x4_2) true l0_0 l0_1) = some r:=by rw [if_neg (show ¬ (false = true) by decide)] at H;exact H
           clear H;have H:=H1;clear H1;have H':=am_ H;clear H;have hcz17_0:=c2_0 BK176.out;have hcz17_1:=c2_1 BK176.out;have hfz17_0:=blk_frozen BK176.out 0;have hfz17_1:=blk_frozen BK176.out 1;have p179 : 0 ≤ (x4_2 : Int):=of_decide_eq_true (by first | (with_reducible assumption) | assumption);have q179 : x4_2 < (l0_0.length : Int):=of_decide_eq_true (by first | (with_reducible assumption) | assumption);obtain ⟨ad179,e179,hx179_0⟩ := Kd.at_int HR0_0.out x4_2 p179 q179;cases e179;replace hx179_0:=(HB.out.cell (World.block_lt_of_cell? w _ hx179_0)).trans hx179_0;replace p179:=eq_true p179;replace q179:=eq_true q179
           go_wp2_with (first | ((with_reducible refine gate_callee (f:=81) rfl ?_);refine goesL_ (some 38) rfl rfl Try.func81 (by kernel_rfl) rfl #[.int .i64 (rd l0_0 x4_2), .int .i64 0, .int .i64 6] rfl (by (try simp only [List.map_toArray,List.map_cons,List.map_nil]);first | done | rfl | (simp only [List.length_drop,List.length_take];rfl)) ?_;(with_reducible refine (spec_l1In.calls (rd l0_0 x4_2) 0 6 false _ A14.out).mono ?_);rintro e w' ⟨rfl,⟨nd,rfl⟩⟩;refine ⟨_,rfl, ?_⟩))
           go_meet
           case rel => exact ⟨_,(true),(by first | rfl | (simp;done) | (simp [*];done)),H',⟨by have:=HJ1.out;have:=HK2.out;first | omega | exact Nat.le_refl _⟩,⟨by (with_reducible repeat (first | refine blk_drewN ?_ _ | refine blk_drew ?_ | refine blk_alloc ?_ _));exact BK176.out⟩,⟨by repeat (first | (with_reducible first | exact HB.out | apply below_alloc | apply pw_below_drewN | apply below_drew1 | refine below_set ?_ GE176.out) | exact HB.out)⟩⟩
         ·rw [if_neg c13] at H
          exact absurd H (by simp)
        case rest =>
         clear HC11;(try clear c1);(try clear p1);(try clear q1);(try clear hx1);(try clear p2);(try clear c4);(try clear c5);(try clear c8);(try clear c9);(try clear c9b0);(try clear c10);(try clear c10b0);(try clear c13);(try clear c13b0);(try clear c15);(try clear c17);(try clear p17);(try clear q17);(try clear hx17);(try clear hcz12_0);(try clear hcz12_1);(try clear hcz16_0);(try clear hcz16_1);(try clear hcz17_0);(try clear hcz17_1);(try clear hcz6_0);(try clear hcz6_1);(try clear hcz7_0);(try clear hcz7_1);(try clear hfz12_0);(try clear hfz12_1);(try clear hfz16_0);(try clear hfz16_1);(try clear hfz17_0);(try clear hfz17_1);(try clear hfz6_0);(try clear hfz6_1);(try clear hfz7_0);(try clear hfz7_1);(try clear hx178_0);(try clear hx179_0);(try clear hx181_0);(try clear p178);(try clear p179);(try clear p181);(try clear p2);(try clear q178);(try clear q179);(try clear q181);obtain ⟨kq,x49_10,rfl,HA,HJ10,BK176,HB⟩ := hcut
         cases kq with
         | zero => exact absurd HA.out (by simp [spec_l18Good.j2])
         | succ kj10 =>
          have H:=HA.out;clear HA;simp only [spec_l18Good.j2] at H
          by_cases c18 : x49_10 = true
          ·subst c18
           have H1 : (some false) = some r:=by rw [if_pos rfl] at H;exact H
           clear H;have H:=H1;clear H1;obtain rfl:=Option.some.inj H
           go_wp2
           go_ret
           exact ⟨by first | rfl | (simp [errW_none,errW_some] <;> rfl) | (simp [*,errW_none,errW_some] <;> rfl),by repeat (first | (with_reducible first | exact HB.out | apply below_alloc | apply pw_below_drewN | apply below_drew1 | refine below_set ?_ GE176.out) | exact HB.out)⟩
          ·replace c18:=Bool.eq_false_iff.mpr c18;subst c18
           have H1 : (spec_l18Good.l1 kj10 x3_2 x4_2 (rd_L1 l0_1 x4_2) 0 l0_0 l0_1) = some r:=by rw [if_neg (show ¬ (false = true) by decide)] at H;exact H
           clear H;have H:=H1;clear H1;have H':=am_ H;clear H
           go_wp2
           (try simp only [Act.put,sA_,s0_,s1_])
           go_loopg [6] kj10 (fun kq v6 w' => ∃ (x6_4 : Int),v6 = .int .i64 x6_4 ∧ Aside0 (spec_l18Good.l1 kq x3_2 x4_2 (rd_L1 l0_1 x4_2) x6_4 l0_0 l0_1 = some r) ∧ Aside0 (kq ≤ kj10) ∧ Aside0 (w'.heap[gb176]? = some (.cells #[(.slice A0_0 l0_0.length c0_0),(.slice (some ad178) l0_1.length c0_1)] 27 (0,0))) ∧ Aside0 (Below w.heap.size w w'))
           case atStart => exact ⟨(0),(by first | rfl | (simp;done) | (simp [*];done)),H',⟨Nat.le_refl _⟩,⟨by (with_reducible repeat (first | refine blk_drewN ?_ _ | refine blk_drew ?_ | refine blk_alloc ?_ _));exact BK176.out⟩,⟨by repeat (first | (with_reducible first | exact HB.out | apply below_alloc | apply pw_below_drewN | apply below_drew1 | refine below_set ?_ GE176.out) | exact HB.out)⟩⟩
           case round =>
            clear H';(try clear c1);(try clear p1);(try clear q1);(try clear hx1);(try clear p2);(try clear c4);(try clear c5);(try clear c8);(try clear c9);(try clear c9b0);(try clear c10);(try clear c10b0);(try clear c13);(try clear c13b0);(try clear c15);(try clear c17);(try clear p17);(try clear q17);(try clear hx17);(try clear c18);(try clear p18);(try clear q18);(try clear hx18);(try clear hcz12_0);(try clear hcz12_1);(try clear hcz16_0);(try clear hcz16_1);(try clear hcz17_0);(try clear hcz17_1);(try clear hcz6_0);(try clear hcz6_1);(try clear hcz7_0);(try clear hcz7_1);(try clear hfz12_0);(try clear hfz12_1);(try clear hfz16_0);(try clear hfz16_1);(try clear hfz17_0);(try clear hfz17_1);(try clear hfz6_0);(try clear hfz6_1);(try clear hfz7_0);(try clear hfz7_1);(try clear hx178_0);(try clear hx179_0);(try clear hx181_0);(try clear p1);(try clear p17);(try clear p178);(try clear p179);(try clear p181);(try clear p2);(try clear q1);(try clear q17);(try clear q178);(try clear q179);(try clear q181);obtain ⟨x6_4,rfl,HA,HK4,BK176,HB⟩ := hrel
            cases gk with
            | zero => exact absurd HA.out (by simp [spec_l18Good.l1])
            | succ k4 =>
             have H:=HA.out;clear HA;simp only [spec_l18Good.l1] at H
             by_cases c19 : x6_4 < ((rd_L1 l0_1 x4_2).length : Int)
             ·rw [if_pos c19] at H;have c19b0 : decide (x6_4 < ((rd_L1 l0_1 x4_2).length : Int)) = true:=decide_eq_true c19;clear c19
              by_cases c20 : 0 ≤ x6_4
              ·rw [if_pos c20] at H;have c20b0 : decide (0 ≤ x6_4) = true:=decide_eq_true c20;clear c20;replace H:=Option.bind_eq_some_iff.mp H;obtain ⟨t183,A210,H⟩ := H;replace H : (if t183 = true then (if x6_4 > 0 then (if 0 ≤ (wrap64 (x6_4 - 1)) then (if (wrap64 (x6_4 - 1)) < ((rd_L1 l0_1 x4_2).length : Int) then (if (rd (rd_L1 l0_1 x4_2) (wrap64 (x6_4 - 1))) ≥ (rd (rd_L1 l0_1 x4_2) x6_4) then (some false) else ((spec_l18Find.f k4 l0_0 l0_1 (rd (rd_L1 l0_1 x4_2) x6_4)).bind fun t187 => (if t187 = x4_2 then (spec_l18Good.l1 k4 x3_2 x4_2 (rd_L1 l0_1 x4_2) (wrap64 (x6_4 + 1)) l0_0 l0_1) else (some false)))) else (none)) else (none)) else ((spec_l18Find.f k4 l0_0 l0_1 (rd (rd_L1 l0_1 x4_2) x6_4)).bind fun t189 => (if t189 = x4_2 then (spec_l18Good.l1 k4 x3_2 x4_2 (rd_L1 l0_1 x4_2) (wrap64 (x6_4 + 1)) l0_0 l0_1) else (some false)))) else (some false)) = some r:=H;have A21:=am_ A210;clear A210
               by_cases c22 : t183 = true
               ·subst c22
                have H1 : (if x6_4 > 0 then (if 0 ≤ (wrap64 (x6_4 - 1)) then (if (wrap64 (x6_4 - 1)) < ((rd_L1 l0_1 x4_2).length : Int) then (if (rd (rd_L1 l0_1 x4_2) (wrap64 (x6_4 - 1))) ≥ (rd (rd_L1 l0_1 x4_2) x6_4) then (some false) else ((spec_l18Find.f k4 l0_0 l0_1 (rd (rd_L1 l0_1 x4_2) x6_4)).bind fun t187 => (if t187 = x4_2 then (spec_l18Good.l1 k4 x3_2 x4_2 (rd_L1 l0_1 x4_2) (wrap64 (x6_4 + 1)) l0_0 l0_1) else (some false)))) else (none)) else (none)) else ((spec_l18Find.f k4 l0_0 l0_1 (rd (rd_L1 l0_1 x4_2) x6_4)).bind fun t189 => (if t189 = x4_2 then (spec_l18Good.l1 k4 x3_2 x4_2 (rd_L1 l0_1 x4_2) (wrap64 (x6_4 + 1)) l0_0 l0_1) else (some false)))) = some r:=by rw [if_pos rfl] at H;exact H
                clear H;have H:=H1;clear H1
                by_cases c23 : x6_4 > 0
                ·rw [if_pos c23] at H;have c23b0 : decide (0 < x6_4) = true:=decide_eq_true c23;clear c23;obtain ⟨ji24,hji24⟩ : ∃ j_ : Int,(wrap64 (x6_4 - 1)) = j_:=⟨_,rfl⟩
                 replace H : (if 0 ≤ (ji24) then (if (ji24) < ((rd_L1 l0_1 x4_2).length : Int) then (if (rd (rd_L1 l0_1 x4_2) (ji24)) ≥ (rd (rd_L1 l0_1 x4_2) x6_4) then (some false) else ((spec_l18Find.f k4 l0_0 l0_1 (rd (rd_L1 l0_1 x4_2) x6_4)).bind fun t187 => (if t187 = x4_2 then (spec_l18Good.l1 k4 x3_2 x4_2 (rd_L1 l0_1 x4_2) (wrap64 (x6_4 + 1)) l0_0 l0_1) else (some false)))) else (none)) else (none)) = some r:=by first | (rw [hji24] at H;exact H) | (simp only [hji24] at H ⊢;exact H)
                 (try rw [hji24] at A21);have hji24w : (IntKind.i64.wrap (x6_4 - 1)) = ji24:=(i64_w _).trans hji24
                 by_cases c25 : 0 ≤ (ji24)
                 ·rw [if_pos c25] at H;have c25b0 : decide (0 ≤ (ji24)) = true:=decide_eq_true c25;clear c25
                  by_cases c26 : (ji24) < ((rd_L1 l0_1 x4_2).length : Int)
                  ·rw [if_pos c26] at H;have c26b0 : decide ((ji24) < ((rd_L1 l0_1 x4_2).length : Int)) = true:=decide_eq_true c26;clear c26
                   by_cases c27 : (rd (rd_L1 l0_1 x4_2) (ji24)) ≥ (rd (rd_L1 l0_1 x4_2) x6_4)
                   ·rw [if_pos c27] at H;have c27b0 : decide ((rd (rd_L1 l0_1 x4_2) x6_4) ≤ (rd (rd_L1 l0_1 x4_2) (ji24))) = true:=decide_eq_true c27;clear c27;obtain rfl:=Option.some.inj H
                    try go_wp2
                    have n0_:=am_ (blk_drew BK176.out);have n1_:=am_ (below_drew1 HB.out);clear BK176;clear HB;have BK176:=n0_;have HB:=n1_;clear n0_ n1_;have p182 : 0 ≤ (x6_4 : Int):=of_decide_eq_true (by first | (with_reducible assumption) | assumption);have q182 : x6_4 < ((rd_L1 l0_1 x4_2).length : Int):=of_decide_eq_true (by first | (with_reducible assumption) | assumption);obtain ⟨ad182,e182,hx182_0⟩ := Kd.at_int HR178_0.out x6_4 p182 q182;have hw182_0:=hx182_0;cases e182;replace hx182_0:=(HB.out.cell (World.block_lt_of_cell? w _ hx182_0)).trans hx182_0;replace p182:=eq_true p182;replace q182:=eq_true q182;have p184 : 0 ≤ ((ji24) : Int):=of_decide_eq_true (by first | (with_reducible assumption) | assumption);have q184 : (ji24) < ((rd_L1 l0_1 x4_2).length : Int):=of_decide_eq_true (by first | (with_reducible assumption) | assumption);obtain ⟨ad184,e184,hx184_0⟩ := Kd.at_int HR178_0.out (ji24) p184 q184;have hw184_0:=hx184_0;obtain rfl : ad182 = ad184:=(by injection e184);replace hx184_0:=(HB.out.cell (World.block_lt_of_cell? w _ hx184_0)).trans hx184_0;replace p184:=eq_true p184;replace q184:=eq_true q184;have p185 : 0 ≤ (x6_4 : Int):=of_decide_eq_true (by first | (with_reducible assumption) | assumption);have q185 : x6_4 < ((rd_L1 l0_1 x4_2).length : Int):=of_decide_eq_true (by first | (with_reducible assumption) | assumption);obtain ⟨ad185,e185,hx185_0⟩ := Kd.at_int HR178_0.out x6_4 p185 q185;have hw185_0:=hx185_0;obtain rfl : ad182 = ad185:=(by injection e185);replace hx185_0:=(HB.out.cell (World.block_lt_of_cell? w _ hx185_0)).trans hx185_0;replace p185:=eq_true p185;replace q185:=eq_true q185
                    refine start_ (n:=32) (S:=fun w' => w'.cell? (ad182.add (x6_4).toNat) = some (.int .i64 (rd (rd_L1 l0_1 x4_2) x6_4)) ∧ w'.cell? (ad182.add ((ji24)).toNat) = some (.int .i64 (rd (rd_L1 l0_1 x4_2) (ji24))) ∧ w'.cell? (ad182.add (x6_4).toNat) = some (.int .i64 (rd (rd_L1 l0_1 x4_2) x6_4))) (ds := []) #[false,false,false,false,false,false,false,false,false,false,false,false,false,false,false,false,false,false,false,false,false,false,false,false,false,false,false,false,false,false,false,false] (by kernel_rfl) rfl rfl ⟨((HB.out.cell (World.block_lt_of_cell? w _ hw182_0)).trans hw182_0),((HB.out.cell (World.block_lt_of_cell? w _ hw184_0)).trans hw184_0),((HB.out.cell (World.block_lt_of_cell? w _ hw185_0)).trans hw185_0)⟩ (fun hHeld => ?_);refine with_tabW spec_l18Good.tab13 spec_l18Good.bits13 (fun HT_ HW_ => ?_)
                    generalize wr.drew = w28 at BK176 HB hx182_0 hx184_0 hx185_0 hHeld ⊢;refine pure_ (i:=0) (N:=some 56) (v:=?_) (a':=?_) #[true,false,false,false,false,false,false,false,false,false,false,false,false,false,false,false,false,false,false,false,false,false,false,false,false,false,false,false,false,false,false,false] rfl rfl (any_of HT_.out (by kernel_rfl)) (fun _ _ _ h => h) (Or.inl ⟨by rfl, ?_⟩) ?_ ?_
                    rotate_left
                    ·intro w'
                     go_simp
                     with_reducible rfl
                    rotate_left
                    ·simp only [Act.put,sA_,s0_,s1_,i64_w,i32_w]
                     rfl
                    refine pure_ (i:=1) (N:=some 57) (v:=?_) (a':=?_) #[true,true,false,false,false,false,false,false,false,false,false,false,false,false,false,false,false,false,false,false,false,false,false,false,false,false,false,false,false,false,false,false] rfl rfl (any_of HT_.out (by kernel_rfl)) (fun _ _ _ h => h) (Or.inl ⟨by rfl, ?_⟩) ?_ ?_
                    rotate_left
                    ·intro w'
                     go_simp
                     with_reducible rfl
                    rotate_left
                    ·simp only [Act.put,sA_,s0_,s1_,i64_w,i32_w]
                     rfl
                    refine pure_ (i:=2) (N:=some 58) (v:=?_) (a':=?_) #[true,true,true,false,false,false,false,false,false,false,false,false,false,false,false,false,false,false,false,false,false,false,false,false,false,false,false,false,false,false,false,false] rfl rfl (any_of HT_.out (by kernel_rfl)) (fun _ _ _ h => h) (Or.inl ⟨by rfl, ?_⟩) ?_ ?_
                    rotate_left
                    ·intro w'
                     go_simp
                     with_reducible rfl
                    rotate_left
                    ·simp only [Act.put,sA_,s0_,s1_,i64_w,i32_w]
                     rfl
                    refine take_ (i:=3) (N:=some 59) (v:=?_) (a':=?_) #[true,true,true,true,false,false,false,false,false,false,false,false,false,false,false,false,false,false,false,false,false,false,false,false,false,false,false,false,false,false,false,false] rfl rfl (take_ofW HT_.out HW_.out (by kernel_rfl)) (fun _ _ _ h => h) (Or.inl ⟨by rfl, ?_⟩) hHeld ?_ ?_
                    rotate_left
                    ·rintro w' ⟨s0,s1,s2⟩
                     go_simp
                     with_reducible rfl
                    rotate_left
                    ·simp only [Act.put,sA_,s0_,s1_,i64_w,i32_w]
                     rfl
                    refine one_ (i:=4) (N:=some 60) #[true,true,true,true,true,false,false,false,false,false,false,false,false,false,false,false,false,false,false,false,false,false,false,false,false,false,false,false,false,false,false,false] rfl rfl (one_of HT_.out (by kernel_rfl)) (by decide) (fun K hK => ?_);refine goes_ Try.func81 (by kernel_rfl) rfl #[.int .i64 (rd (rd_L1 l0_1 x4_2) x6_4), .int .i64 1, .int .i64 99] (by rfl) rfl rfl (by (try simp only [List.map_toArray,List.map_cons,List.map_nil]);first | done | rfl | (simp only [List.length_drop,List.length_take];rfl)) ?_
                    with_reducible refine (spec_l1In.calls (rd (rd_L1 l0_1 x4_2) x6_4) 1 99 true _ A21.out).mono ?_
                    rintro e w' ⟨rfl,⟨nd,rfl⟩⟩;refine ⟨_,rfl, ?_⟩;refine hK.out _ _ ⟨((HB.out.cell (World.block_lt_of_cell? w _ hw182_0)).trans hw182_0),((HB.out.cell (World.block_lt_of_cell? w _ hw184_0)).trans hw184_0),((HB.out.cell (World.block_lt_of_cell? w _ hw185_0)).trans hw185_0)⟩ (fun hHeld => ?_);clear hK K;refine norm_ (a':=?_) ?_ ?_
                    rotate_left
                    ·show Act.put _ (some 60) _ = _
                     simp only [Act.put,sA_,s0_,s1_,i64_w,i32_w]
                     rfl
                    refine pure_ (i:=5) (N:=some 61) (v:=?_) (a':=?_) #[true,true,true,true,true,true,false,false,false,false,false,false,false,false,false,false,false,false,false,false,false,false,false,false,false,false,false,false,false,false,false,false] rfl rfl (any_of HT_.out (by kernel_rfl)) (fun _ _ _ h => h) (Or.inl ⟨by rfl, ?_⟩) ?_ ?_
                    rotate_left
                    ·intro w'
                     go_simp
                     with_reducible rfl
                    rotate_left
                    ·simp only [Act.put,sA_,s0_,s1_,i64_w,i32_w]
                     rfl
                    refine pure_ (i:=6) (N:=some 62) (v:=?_) (a':=?_) #[true,true,true,true,true,true,true,false,false,false,false,false,false,false,false,false,false,false,false,false,false,false,false,false,false,false,false,false,false,false,false,false] rfl rfl (any_of HT_.out (by kernel_rfl)) (fun _ _ _ h => h) (Or.inl ⟨by rfl, ?_⟩) ?_ ?_
                    rotate_left
                    ·intro w'
                     go_simp
                     with_reducible rfl
                    rotate_left
                    ·simp only [Act.put,sA_,s0_,s1_,i64_w,i32_w]
                     rfl
                    refine pure_ (i:=7) (N:=some 63) (v:=?_) (a':=?_) #[true,true,true,true,true,true,true,true,false,false,false,false,false,false,false,false,false,false,false,false,false,false,false,false,false,false,false,false,false,false,false,false] rfl rfl (any_of HT_.out (by kernel_rfl)) (fun _ _ _ h => h) (Or.inl ⟨by rfl, ?_⟩) ?_ ?_
                    rotate_left
                    ·intro w'
                     go_simp
                     with_reducible rfl
                    rotate_left
                    ·simp only [Act.put,sA_,s0_,s1_,i64_w,i32_w]
                     rfl
                    refine pure_ (i:=8) (N:=some 64) (v:=?_) (a':=?_) #[true,true,true,true,true,true,true,true,true,false,false,false,false,false,false,false,false,false,false,false,false,false,false,false,false,false,false,false,false,false,false,false] rfl rfl (any_of HT_.out (by kernel_rfl)) (fun _ _ _ h => h) (Or.inl ⟨by rfl, ?_⟩) ?_ ?_
                    rotate_left
                    ·intro w'
                     go_simp
                     with_reducible rfl
                    rotate_left
                    ·simp only [Act.put,sA_,s0_,s1_,i64_w,i32_w]
                     rfl
                    refine pure_ (i:=9) (N:=some 65) (v:=?_) (a':=?_) #[true,true,true,true,true,true,true,true,true,true,false,false,false,false,false,false,false,false,false,false,false,false,false,false,false,false,false,false,false,false,false,false] rfl rfl (any_of HT_.out (by kernel_rfl)) (fun _ _ _ h => h) (Or.inl ⟨by rfl, ?_⟩) ?_ ?_
                    rotate_left
                    ·intro w'
                     go_simp
                     with_reducible rfl
                    rotate_left
                    ·simp only [Act.put,sA_,s0_,s1_,i64_w,i32_w]
                     rfl
                    refine pure_ (i:=10) (N:=some 66) (v:=?_) (a':=?_) #[true,true,true,true,true,true,true,true,true,true,true,false,false,false,false,false,false,false,false,false,false,false,false,false,false,false,false,false,false,false,false,false] rfl rfl (any_of HT_.out (by kernel_rfl)) (fun _ _ _ h => h) (Or.inl ⟨by rfl, ?_⟩) ?_ ?_
                    rotate_left
                    ·intro w'
                     go_simp
                     with_reducible rfl
                    rotate_left
                    ·simp only [Act.put,sA_,s0_,s1_,i64_w,i32_w]
                     rfl
                    refine pure_ (i:=11) (N:=some 67) (v:=?_) (a':=?_) #[true,true,true,true,true,true,true,true,true,true,true,true,false,false,false,false,false,false,false,false,false,false,false,false,false,false,false,false,false,false,false,false] rfl rfl (any_of HT_.out (by kernel_rfl)) (fun _ _ _ h => h) (Or.inl ⟨by rfl, ?_⟩) ?_ ?_
                    rotate_left
                    ·intro w'
                     go_simp
                     with_reducible rfl
                    rotate_left
                    ·simp only [Act.put,sA_,s0_,s1_,i64_w,i32_w]
                     rfl
                    refine pure_ (i:=12) (N:=some 68) (v:=?_) (a':=?_) #[true,true,true,true,true,true,true,true,true,true,true,true,true,false,false,false,false,false,false,false,false,false,false,false,false,false,false,false,false,false,false,false] rfl rfl (any_of HT_.out (by kernel_rfl)) (fun _ _ _ h => h) (Or.inl ⟨by rfl, ?_⟩) ?_ ?_
                    rotate_left
                    ·intro w'
                     go_simp
                     with_reducible rfl
                    rotate_left
                    ·simp only [Act.put,sA_,s0_,s1_,i64_w,i32_w]
                     rfl
                    refine pure_ (i:=13) (N:=some 69) (v:=?_) (a':=?_) #[true,true,true,true,true,true,true,true,true,true,true,true,true,true,false,false,false,false,false,false,false,false,false,false,false,false,false,false,false,false,false,false] rfl rfl (any_of HT_.out (by kernel_rfl)) (fun _ _ _ h => h) (Or.inl ⟨by rfl, ?_⟩) ?_ ?_
                    rotate_left
                    ·intro w'
                     go_simp
                     with_reducible rfl
                    rotate_left
                    ·simp only [Act.put,sA_,s0_,s1_,i64_w,i32_w]
                     rfl
                    refine pure_ (i:=15) (N:=some 71) (v:=?_) (a':=?_) #[true,true,true,true,true,true,true,true,true,true,true,true,true,true,false,true,false,false,false,false,false,false,false,false,false,false,false,false,false,false,false,false] rfl rfl (any_of HT_.out (by kernel_rfl)) (fun _ _ _ h => h) (Or.inl ⟨by rfl, ?_⟩) ?_ ?_
                    rotate_left
                    ·intro w'
                     go_simp
                     with_reducible rfl
                    rotate_left
                    ·simp only [Act.put,sA_,s0_,s1_,i64_w,i32_w]
                     rfl
                    refine pure_ (i:=16) (N:=some 72) (v:=?_) (a':=?_) #[true,true,true,true,true,true,true,true,true,true,true,true,true,true,false,true,true,false,false,false,false,false,false,false,false,false,false,false,false,false,false,false] rfl rfl (any_of HT_.out (by kernel_rfl)) (fun _ _ _ h => h) (Or.inl ⟨by rfl, ?_⟩) ?_ ?_
                    rotate_left
                    ·intro w'
                     go_simp
                     with_reducible rfl
                    rotate_left
                    ·simp only [Act.put,sA_,s0_,s1_,i64_w,i32_w]
                     rfl
                    refine pure_ (i:=17) (N:=some 73) (v:=?_) (a':=?_) #[true,true,true,true,true,true,true,true,true,true,true,true,true,true,false,true,true,true,false,false,false,false,false,false,false,false,false,false,false,false,false,false] rfl rfl (any_of HT_.out (by kernel_rfl)) (fun _ _ _ h => h) (Or.inl ⟨by rfl, ?_⟩) ?_ ?_
                    rotate_left
                    ·intro w'
                     go_simp
                     with_reducible rfl
                    rotate_left
                    ·simp only [Act.put,sA_,s0_,s1_,i64_w,i32_w]
                     rfl
                    refine take_ (i:=14) (N:=some 70) (v:=?_) (a':=?_) #[true,true,true,true,true,true,true,true,true,true,true,true,true,true,true,true,true,true,false,false,false,false,false,false,false,false,false,false,false,false,false,false] rfl rfl (take_ofW HT_.out HW_.out (by kernel_rfl)) (fun _ _ _ h => h) (Or.inl ⟨by rfl, ?_⟩) hHeld ?_ ?_
                    rotate_left
                    ·rintro w' ⟨s0,s1,s2⟩
                     go_simp
                     with_reducible rfl
                    rotate_left
                    ·simp only [Act.put,sA_,s0_,s1_,i64_w,i32_w]
                     rfl
                    refine take_ (i:=18) (N:=some 74) (v:=?_) (a':=?_) #[true,true,true,true,true,true,true,true,true,true,true,true,true,true,true,true,true,true,true,false,false,false,false,false,false,false,false,false,false,false,false,false] rfl rfl (take_ofW HT_.out HW_.out (by kernel_rfl)) (fun _ _ _ h => h) (Or.inl ⟨by rfl, ?_⟩) hHeld ?_ ?_
                    rotate_left
                    ·rintro w' ⟨s0,s1,s2⟩
                     go_simp
                     with_reducible rfl
                    rotate_left
                    ·simp only [Act.put,sA_,s0_,s1_,i64_w,i32_w]
                     rfl
                    refine pure_ (i:=19) (N:=some 75) (v:=?_) (a':=?_) #[true,true,true,true,true,true,true,true,true,true,true,true,true,true,true,true,true,true,true,true,false,false,false,false,false,false,false,false,false,false,false,false] rfl rfl (any_of HT_.out (by kernel_rfl)) (fun _ _ _ h => h) (Or.inl ⟨by rfl, ?_⟩) ?_ ?_
                    rotate_left
                    ·intro w'
                     go_simp
                     with_reducible rfl
                    rotate_left
                    ·simp only [Act.put,sA_,s0_,s1_,i64_w,i32_w]
                     rfl
                    refine pure_ (i:=20) (N:=some 76) (v:=?_) (a':=?_) #[true,true,true,true,true,true,true,true,true,true,true,true,true,true,true,true,true,true,true,true,true,false,false,false,false,false,false,false,false,false,false,false] rfl rfl (any_of HT_.out (by kernel_rfl)) (fun _ _ _ h => h) (Or.inl ⟨by rfl, ?_⟩) ?_ ?_
                    rotate_left
                    ·intro w'
                     go_simp
                     with_reducible rfl
                    rotate_left
                    ·simp only [Act.put,sA_,s0_,s1_,i64_w,i32_w]
                     rfl
                    refine pure_ (i:=21) (N:=some 77) (v:=?_) (a':=?_) #[true,true,true,true,true,true,true,true,true,true,true,true,true,true,true,true,true,true,true,true,true,true,false,false,false,false,false,false,false,false,false,false] rfl rfl (any_of HT_.out (by kernel_rfl)) (fun _ _ _ h => h) (Or.inl ⟨by rfl, ?_⟩) ?_ ?_
                    rotate_left
                    ·intro w'
                     go_simp
                     with_reducible rfl
                    rotate_left
                    ·simp only [Act.put,sA_,s0_,s1_,i64_w,i32_w]
                     rfl
                    refine pure_ (i:=22) (N:=some 78) (v:=?_) (a':=?_) #[true,true,true,true,true,true,true,true,true,true,true,true,true,true,true,true,true,true,true,true,true,true,true,false,false,false,false,false,false,false,false,false] rfl rfl (any_of HT_.out (by kernel_rfl)) (fun _ _ _ h => h) (Or.inl ⟨by rfl, ?_⟩) ?_ ?_
                    rotate_left
                    ·intro w'
                     go_simp
                     with_reducible rfl
                    rotate_left
                    ·simp only [Act.put,sA_,s0_,s1_,i64_w,i32_w]
                     rfl
                    refine pure_ (i:=23) (N:=some 79) (v:=undef) (a':=?_) #[true,true,true,true,true,true,true,true,true,true,true,true,true,true,true,true,true,true,true,true,true,true,true,true,false,false,false,false,false,false,false,false] rfl rfl (any_of HT_.out (by kernel_rfl)) (fun _ _ _ h => h) (Or.inr ⟨by rfl,rfl⟩) ?_ ?_
                    rotate_left
                    ·simp only [Act.put,sA_,s0_,s1_,i64_w,i32_w]
                     rfl
                    refine pure_ (i:=24) (N:=some 80) (v:=undef) (a':=?_) #[true,true,true,true,true,true,true,true,true,true,true,true,true,true,true,true,true,true,true,true,true,true,true,true,true,false,false,false,false,false,false,false] rfl rfl (any_of HT_.out (by kernel_rfl)) (fun _ _ _ h => h) (Or.inr ⟨by rfl,rfl⟩) ?_ ?_
                    rotate_left
                    ·simp only [Act.put,sA_,s0_,s1_,i64_w,i32_w]
                     rfl
                    refine pure_ (i:=25) (N:=some 81) (v:=undef) (a':=?_) #[true,true,true,true,true,true,true,true,true,true,true,true,true,true,true,true,true,true,true,true,true,true,true,true,true,true,false,false,false,false,false,false] rfl rfl (any_of HT_.out (by kernel_rfl)) (fun _ _ _ h => h) (Or.inr ⟨by rfl,rfl⟩) ?_ ?_
                    rotate_left
                    ·simp only [Act.put,sA_,s0_,s1_,i64_w,i32_w]
                     rfl
                    refine pure_ (i:=26) (N:=some 82) (v:=undef) (a':=?_) #[true,true,true,true,true,true,true,true,true,true,true,true,true,true,true,true,true,true,true,true,true,true,true,true,true,true,true,false,false,false,false,false] rfl rfl (any_of HT_.out (by kernel_rfl)) (fun _ _ _ h => h) (Or.inr ⟨by rfl,rfl⟩) ?_ ?_
                    rotate_left
                    ·simp only [Act.put,sA_,s0_,s1_,i64_w,i32_w]
                     rfl
                    refine pure_ (i:=27) (N:=some 83) (v:=undef) (a':=?_) #[true,true,true,true,true,true,true,true,true,true,true,true,true,true,true,true,true,true,true,true,true,true,true,true,true,true,true,true,false,false,false,false] rfl rfl (any_of HT_.out (by kernel_rfl)) (fun _ _ _ h => h) (Or.inr ⟨by rfl,rfl⟩) ?_ ?_
                    rotate_left
                    ·simp only [Act.put,sA_,s0_,s1_,i64_w,i32_w]
                     rfl
                    refine pure_ (i:=28) (N:=some 84) (v:=undef) (a':=?_) #[true,true,true,true,true,true,true,true,true,true,true,true,true,true,true,true,true,true,true,true,true,true,true,true,true,true,true,true,true,false,false,false] rfl rfl (any_of HT_.out (by kernel_rfl)) (fun _ _ _ h => h) (Or.inr ⟨by rfl,rfl⟩) ?_ ?_
                    rotate_left
                    ·simp only [Act.put,sA_,s0_,s1_,i64_w,i32_w]
                     rfl
                    refine pure_ (i:=29) (N:=some 85) (v:=undef) (a':=?_) #[true,true,true,true,true,true,true,true,true,true,true,true,true,true,true,true,true,true,true,true,true,true,true,true,true,true,true,true,true,true,false,false] rfl rfl (any_of HT_.out (by kernel_rfl)) (fun _ _ _ h => h) (Or.inr ⟨by rfl,rfl⟩) ?_ ?_
                    rotate_left
                    ·simp only [Act.put,sA_,s0_,s1_,i64_w,i32_w]
                     rfl
                    refine pure_ (i:=30) (N:=some 86) (v:=undef) (a':=?_) #[true,true,true,true,true,true,true,true,true,true,true,true,true,true,true,true,true,true,true,true,true,true,true,true,true,true,true,true,true,true,true,false] rfl rfl (any_of HT_.out (by kernel_rfl)) (fun _ _ _ h => h) (Or.inr ⟨by rfl,rfl⟩) ?_ ?_
                    rotate_left
                    ·simp only [Act.put,sA_,s0_,s1_,i64_w,i32_w]
                     rfl
                    refine pure_ (i:=31) (N:=some 87) (v:=?_) (a':=?_) #[true,true,true,true,true,true,true,true,true,true,true,true,true,true,true,true,true,true,true,true,true,true,true,true,true,true,true,true,true,true,true,true] rfl rfl (any_of HT_.out (by kernel_rfl)) (fun _ _ _ h => h) (Or.inl ⟨by rfl, ?_⟩) ?_ ?_
                    rotate_left
                    ·intro w'
                     go_simp
                     with_reducible rfl
                    rotate_left
                    ·simp only [Act.put,sA_,s0_,s1_,i64_w,i32_w]
                     rfl
                    refine done_ (done_of HT_.out (by kernel_rfl)) ?_
                    try go_wp2
                    go_ret
                    exact ⟨by first | rfl | (simp [errW_none,errW_some] <;> rfl) | (simp only [← hji24];first | rfl | (simp [errW_none,errW_some] <;> rfl)) | (simp [*,errW_none,errW_some] <;> rfl),by repeat (first | (with_reducible first | exact HB.out | apply below_alloc | apply pw_below_drewN | apply below_drew1 | refine below_set ?_ GE176.out) | exact HB.out)⟩
                   ·rw [if_neg c27] at H;have c27b0 : decide ((rd (rd_L1 l0_1 x4_2) x6_4) ≤ (rd (rd_L1 l0_1 x4_2) (ji24))) = false:=decide_eq_false c27;clear c27;replace H:=Option.bind_eq_some_iff.mp H;obtain ⟨t187,A290,H⟩ := H;replace H : (if t187 = x4_2 then (spec_l18Good.l1 k4 x3_2 x4_2 (rd_L1 l0_1 x4_2) (wrap64 (x6_4 + 1)) l0_0 l0_1) else (some false)) = some r:=H;have A29:=am_ A290;clear A290
                    by_cases c30 : t187 = x4_2
                    ·rw [if_pos c30] at H;have c30b0 : (t187 == x4_2) = true:=beq_iff_eq.mpr c30;have c30b1 : (t187 != x4_2) = false:=bne_eq_false_iff_eq.mpr c30;clear c30;have H':=am_ H;clear H
                     try go_wp2
                     have n0_:=am_ (blk_drew BK176.out);have n1_:=am_ (below_drew1 HB.out);clear BK176;clear HB;have BK176:=n0_;have HB:=n1_;clear n0_ n1_;have p182 : 0 ≤ (x6_4 : Int):=of_decide_eq_true (by first | (with_reducible assumption) | assumption);have q182 : x6_4 < ((rd_L1 l0_1 x4_2).length : Int):=of_decide_eq_true (by first | (with_reducible assumption) | assumption);obtain ⟨ad182,e182,hx182_0⟩ := Kd.at_int HR178_0.out x6_4 p182 q182;have hw182_0:=hx182_0;cases e182;replace hx182_0:=(HB.out.cell (World.block_lt_of_cell? w _ hx182_0)).trans hx182_0;replace p182:=eq_true p182;replace q182:=eq_true q182;have p184 : 0 ≤ ((ji24) : Int):=of_decide_eq_true (by first | (with_reducible assumption) | assumption);have q184 : (ji24) < ((rd_L1 l0_1 x4_2).length : Int):=of_decide_eq_true (by first | (with_reducible assumption) | assumption);obtain ⟨ad184,e184,hx184_0⟩ := Kd.at_int HR178_0.out (ji24) p184 q184;have hw184_0:=hx184_0;obtain rfl : ad182 = ad184:=(by injection e184);replace hx184_0:=(HB.out.cell (World.block_lt_of_cell? w _ hx184_0)).trans hx184_0;replace p184:=eq_true p184;replace q184:=eq_true q184;have p185 : 0 ≤ (x6_4 : Int):=of_decide_eq_true (by first | (with_reducible assumption) | assumption);have q185 : x6_4 < ((rd_L1 l0_1 x4_2).length : Int):=of_decide_eq_true (by first | (with_reducible assumption) | assumption);obtain ⟨ad185,e185,hx185_0⟩ := Kd.at_int HR178_0.out x6_4 p185 q185;have hw185_0:=hx185_0;obtain rfl : ad182 = ad185:=(by injection e185);replace hx185_0:=(HB.out.cell (World.block_lt_of_cell? w _ hx185_0)).trans hx185_0;replace p185:=eq_true p185;replace q185:=eq_true q185;have p186 : 0 ≤ (x6_4 : Int):=of_decide_eq_true (by first | (with_reducible assumption) | assumption);have q186 : x6_4 < ((rd_L1 l0_1 x4_2).length : Int):=of_decide_eq_true (by first | (with_reducible assumption) | assumption);obtain ⟨ad186,e186,hx186_0⟩ := Kd.at_int HR178_0.out x6_4 p186 q186;have hw186_0:=hx186_0;obtain rfl : ad182 = ad186:=(by injection e186);replace hx186_0:=(HB.out.cell (World.block_lt_of_cell? w _ hx186_0)).trans hx186_0;replace p186:=eq_true p186;replace q186:=eq_true q186
                     refine start_ (n:=32) (S:=fun w' => w'.cell? ⟨gb176,0,none⟩ = some (.slice A0_0 l0_0.length c0_0) ∧ w'.cell? ⟨gb176,1,none⟩ = some (.slice (some ad178) l0_1.length c0_1) ∧ w'.cell? (ad182.add (x6_4).toNat) = some (.int .i64 (rd (rd_L1 l0_1 x4_2) x6_4)) ∧ w'.cell? (ad182.add ((ji24)).toNat) = some (.int .i64 (rd (rd_L1 l0_1 x4_2) (ji24))) ∧ w'.cell? (ad182.add (x6_4).toNat) = some (.int .i64 (rd (rd_L1 l0_1 x4_2) x6_4)) ∧ w'.cell? (ad182.add (x6_4).toNat) = some (.int .i64 (rd (rd_L1 l0_1 x4_2) x6_4))) (ds := []) #[false,false,false,false,false,false,false,false,false,false,false,false,false,false,false,false,false,false,false,false,false,false,false,false,false,false,false,false,false,false,false,false] (by kernel_rfl) rfl rfl ⟨(blk_cell BK176.out 0).trans rfl,(blk_cell BK176.out 1).trans rfl,((HB.out.cell (World.block_lt_of_cell? w _ hw182_0)).trans hw182_0),((HB.out.cell (World.block_lt_of_cell? w _ hw184_0)).trans hw184_0),((HB.out.cell (World.block_lt_of_cell? w _ hw185_0)).trans hw185_0),((HB.out.cell (World.block_lt_of_cell? w _ hw186_0)).trans hw186_0)⟩ (fun hHeld => ?_);refine with_tabW spec_l18Good.tab13 spec_l18Good.bits13 (fun HT_ HW_ => ?_)
                     generalize wr.drew = w31 at BK176 HB hx182_0 hx184_0 hx185_0 hx186_0 hHeld ⊢;refine pure_ (i:=0) (N:=some 56) (v:=?_) (a':=?_) #[true,false,false,false,false,false,false,false,false,false,false,false,false,false,false,false,false,false,false,false,false,false,false,false,false,false,false,false,false,false,false,false] rfl rfl (any_of HT_.out (by kernel_rfl)) (fun _ _ _ h => h) (Or.inl ⟨by rfl, ?_⟩) ?_ ?_
                     rotate_left
                     ·intro w'
                      go_simp
                      with_reducible rfl
                     rotate_left
                     ·simp only [Act.put,sA_,s0_,s1_,i64_w,i32_w]
                      rfl
                     refine pure_ (i:=1) (N:=some 57) (v:=?_) (a':=?_) #[true,true,false,false,false,false,false,false,false,false,false,false,false,false,false,false,false,false,false,false,false,false,false,false,false,false,false,false,false,false,false,false] rfl rfl (any_of HT_.out (by kernel_rfl)) (fun _ _ _ h => h) (Or.inl ⟨by rfl, ?_⟩) ?_ ?_
                     rotate_left
                     ·intro w'
                      go_simp
                      with_reducible rfl
                     rotate_left
                     ·simp only [Act.put,sA_,s0_,s1_,i64_w,i32_w]
                      rfl
                     refine pure_ (i:=2) (N:=some 58) (v:=?_) (a':=?_) #[true,true,true,false,false,false,false,false,false,false,false,false,false,false,false,false,false,false,false,false,false,false,false,false,false,false,false,false,false,false,false,false] rfl rfl (any_of HT_.out (by kernel_rfl)) (fun _ _ _ h => h) (Or.inl ⟨by rfl, ?_⟩) ?_ ?_
                     rotate_left
                     ·intro w'
                      go_simp
                      with_reducible rfl
                     rotate_left
                     ·simp only [Act.put,sA_,s0_,s1_,i64_w,i32_w]
                      rfl
                     refine take_ (i:=3) (N:=some 59) (v:=?_) (a':=?_) #[true,true,true,true,false,false,false,false,false,false,false,false,false,false,false,false,false,false,false,false,false,false,false,false,false,false,false,false,false,false,false,false] rfl rfl (take_ofW HT_.out HW_.out (by kernel_rfl)) (fun _ _ _ h => h) (Or.inl ⟨by rfl, ?_⟩) hHeld ?_ ?_
                     rotate_left
                     ·rintro w' ⟨s0,s1,s2,s3,s4,s5⟩
                      go_simp
                      with_reducible rfl
                     rotate_left
                     ·simp only [Act.put,sA_,s0_,s1_,i64_w,i32_w]
                      rfl
                     refine one_ (i:=4) (N:=some 60) #[true,true,true,true,true,false,false,false,false,false,false,false,false,false,false,false,false,false,false,false,false,false,false,false,false,false,false,false,false,false,false,false] rfl rfl (one_of HT_.out (by kernel_rfl)) (by decide) (fun K hK => ?_);refine goes_ Try.func81 (by kernel_rfl) rfl #[.int .i64 (rd (rd_L1 l0_1 x4_2) x6_4), .int .i64 1, .int .i64 99] (by rfl) rfl rfl (by (try simp only [List.map_toArray,List.map_cons,List.map_nil]);first | done | rfl | (simp only [List.length_drop,List.length_take];rfl)) ?_
                     with_reducible refine (spec_l1In.calls (rd (rd_L1 l0_1 x4_2) x6_4) 1 99 true _ A21.out).mono ?_
                     rintro e w' ⟨rfl,⟨nd,rfl⟩⟩;refine ⟨_,rfl, ?_⟩;refine hK.out _ _ ⟨(blk_cell BK176.out 0).trans rfl,(blk_cell BK176.out 1).trans rfl,((HB.out.cell (World.block_lt_of_cell? w _ hw182_0)).trans hw182_0),((HB.out.cell (World.block_lt_of_cell? w _ hw184_0)).trans hw184_0),((HB.out.cell (World.block_lt_of_cell? w _ hw185_0)).trans hw185_0),((HB.out.cell (World.block_lt_of_cell? w _ hw186_0)).trans hw186_0)⟩ (fun hHeld => ?_);clear hK K;refine norm_ (a':=?_) ?_ ?_
                     rotate_left
                     ·show Act.put _ (some 60) _ = _
                      simp only [Act.put,sA_,s0_,s1_,i64_w,i32_w]
                      rfl
                     refine pure_ (i:=5) (N:=some 61) (v:=?_) (a':=?_) #[true,true,true,true,true,true,false,false,false,false,false,false,false,false,false,false,false,false,false,false,false,false,false,false,false,false,false,false,false,false,false,false] rfl rfl (any_of HT_.out (by kernel_rfl)) (fun _ _ _ h => h) (Or.inl ⟨by rfl, ?_⟩) ?_ ?_
                     rotate_left
                     ·intro w'
                      go_simp
                      with_reducible rfl
                     rotate_left
                     ·simp only [Act.put,sA_,s0_,s1_,i64_w,i32_w]
                      rfl
                     refine pure_ (i:=6) (N:=some 62) (v:=?_) (a':=?_) #[true,true,true,true,true,true,true,false,false,false,false,false,false,false,false,false,false,false,false,false,false,false,false,false,false,false,false,false,false,false,false,false] rfl rfl (any_of HT_.out (by kernel_rfl)) (fun _ _ _ h => h) (Or.inl ⟨by rfl, ?_⟩) ?_ ?_
                     rotate_left
                     ·intro w'
                      go_simp
                      with_reducible rfl
                     rotate_left
                     ·simp only [Act.put,sA_,s0_,s1_,i64_w,i32_w]
                      rfl
                     refine pure_ (i:=7) (N:=some 63) (v:=?_) (a':=?_) #[true,true,true,true,true,true,true,true,false,false,false,false,false,false,false,false,false,false,false,false,false,false,false,false,false,false,false,false,false,false,false,false] rfl rfl (any_of HT_.out (by kernel_rfl)) (fun _ _ _ h => h) (Or.inl ⟨by rfl, ?_⟩) ?_ ?_
                     rotate_left
                     ·intro w'
                      go_simp
                      with_reducible rfl
                     rotate_left
                     ·simp only [Act.put,sA_,s0_,s1_,i64_w,i32_w]
                      rfl
                     refine pure_ (i:=8) (N:=some 64) (v:=?_) (a':=?_) #[true,true,true,true,true,true,true,true,true,false,false,false,false,false,false,false,false,false,false,false,false,false,false,false,false,false,false,false,false,false,false,false] rfl rfl (any_of HT_.out (by kernel_rfl)) (fun _ _ _ h => h) (Or.inl ⟨by rfl, ?_⟩) ?_ ?_
                     rotate_left
                     ·intro w'
                      go_simp
                      with_reducible rfl
                     rotate_left
                     ·simp only [Act.put,sA_,s0_,s1_,i64_w,i32_w]
                      rfl
                     refine pure_ (i:=9) (N:=some 65) (v:=?_) (a':=?_) #[true,true,true,true,true,true,true,true,true,true,false,false,false,false,false,false,false,false,false,false,false,false,false,false,false,false,false,false,false,false,false,false] rfl rfl (any_of HT_.out (by kernel_rfl)) (fun _ _ _ h => h) (Or.inl ⟨by rfl, ?_⟩) ?_ ?_
                     rotate_left
                     ·intro w'
                      go_simp
                      with_reducible rfl
                     rotate_left
                     ·simp only [Act.put,sA_,s0_,s1_,i64_w,i32_w]
                      rfl
                     refine pure_ (i:=10) (N:=some 66) (v:=?_) (a':=?_) #[true,true,true,true,true,true,true,true,true,true,true,false,false,false,false,false,false,false,false,false,false,false,false,false,false,false,false,false,false,false,false,false] rfl rfl (any_of HT_.out (by kernel_rfl)) (fun _ _ _ h => h) (Or.inl ⟨by rfl, ?_⟩) ?_ ?_
                     rotate_left
                     ·intro w'
                      go_simp
                      with_reducible rfl
                     rotate_left
                     ·simp only [Act.put,sA_,s0_,s1_,i64_w,i32_w]
                      rfl
                     refine pure_ (i:=11) (N:=some 67) (v:=?_) (a':=?_) #[true,true,true,true,true,true,true,true,true,true,true,true,false,false,false,false,false,false,false,false,false,false,false,false,false,false,false,false,false,false,false,false] rfl rfl (any_of HT_.out (by kernel_rfl)) (fun _ _ _ h => h) (Or.inl ⟨by rfl, ?_⟩) ?_ ?_
                     rotate_left
                     ·intro w'
                      go_simp
                      with_reducible rfl
                     rotate_left
                     ·simp only [Act.put,sA_,s0_,s1_,i64_w,i32_w]
                      rfl
                     refine pure_ (i:=12) (N:=some 68) (v:=?_) (a':=?_) #[true,true,true,true,true,true,true,true,true,true,true,true,true,false,false,false,false,false,false,false,false,false,false,false,false,false,false,false,false,false,false,false] rfl rfl (any_of HT_.out (by kernel_rfl)) (fun _ _ _ h => h) (Or.inl ⟨by rfl, ?_⟩) ?_ ?_
                     rotate_left
                     ·intro w'
                      go_simp
                      with_reducible rfl
                     rotate_left
                     ·simp only [Act.put,sA_,s0_,s1_,i64_w,i32_w]
                      rfl
                     refine pure_ (i:=13) (N:=some 69) (v:=?_) (a':=?_) #[true,true,true,true,true,true,true,true,true,true,true,true,true,true,false,false,false,false,false,false,false,false,false,false,false,false,false,false,false,false,false,false] rfl rfl (any_of HT_.out (by kernel_rfl)) (fun _ _ _ h => h) (Or.inl ⟨by rfl, ?_⟩) ?_ ?_
                     rotate_left
                     ·intro w'
                      go_simp
                      with_reducible rfl
                     rotate_left
                     ·simp only [Act.put,sA_,s0_,s1_,i64_w,i32_w]
                      rfl
                     refine pure_ (i:=15) (N:=some 71) (v:=?_) (a':=?_) #[true,true,true,true,true,true,true,true,true,true,true,true,true,true,false,true,false,false,false,false,false,false,false,false,false,false,false,false,false,false,false,false] rfl rfl (any_of HT_.out (by kernel_rfl)) (fun _ _ _ h => h) (Or.inl ⟨by rfl, ?_⟩) ?_ ?_
                     rotate_left
                     ·intro w'
                      go_simp
                      with_reducible rfl
                     rotate_left
                     ·simp only [Act.put,sA_,s0_,s1_,i64_w,i32_w]
                      rfl
                     refine pure_ (i:=16) (N:=some 72) (v:=?_) (a':=?_) #[true,true,true,true,true,true,true,true,true,true,true,true,true,true,false,true,true,false,false,false,false,false,false,false,false,false,false,false,false,false,false,false] rfl rfl (any_of HT_.out (by kernel_rfl)) (fun _ _ _ h => h) (Or.inl ⟨by rfl, ?_⟩) ?_ ?_
                     rotate_left
                     ·intro w'
                      go_simp
                      with_reducible rfl
                     rotate_left
                     ·simp only [Act.put,sA_,s0_,s1_,i64_w,i32_w]
                      rfl
                     refine pure_ (i:=17) (N:=some 73) (v:=?_) (a':=?_) #[true,true,true,true,true,true,true,true,true,true,true,true,true,true,false,true,true,true,false,false,false,false,false,false,false,false,false,false,false,false,false,false] rfl rfl (any_of HT_.out (by kernel_rfl)) (fun _ _ _ h => h) (Or.inl ⟨by rfl, ?_⟩) ?_ ?_
                     rotate_left
                     ·intro w'
                      go_simp
                      with_reducible rfl
                     rotate_left
                     ·simp only [Act.put,sA_,s0_,s1_,i64_w,i32_w]
                      rfl
                     refine take_ (i:=14) (N:=some 70) (v:=?_) (a':=?_) #[true,true,true,true,true,true,true,true,true,true,true,true,true,true,true,true,true,true,false,false,false,false,false,false,false,false,false,false,false,false,false,false] rfl rfl (take_ofW HT_.out HW_.out (by kernel_rfl)) (fun _ _ _ h => h) (Or.inl ⟨by rfl, ?_⟩) hHeld ?_ ?_
                     rotate_left
                     ·rintro w' ⟨s0,s1,s2,s3,s4,s5⟩
                      go_simp
                      with_reducible rfl
                     rotate_left
                     ·simp only [Act.put,sA_,s0_,s1_,i64_w,i32_w]
                      rfl
                     refine take_ (i:=18) (N:=some 74) (v:=?_) (a':=?_) #[true,true,true,true,true,true,true,true,true,true,true,true,true,true,true,true,true,true,true,false,false,false,false,false,false,false,false,false,false,false,false,false] rfl rfl (take_ofW HT_.out HW_.out (by kernel_rfl)) (fun _ _ _ h => h) (Or.inl ⟨by rfl, ?_⟩) hHeld ?_ ?_
                     rotate_left
                     ·rintro w' ⟨s0,s1,s2,s3,s4,s5⟩
                      go_simp
                      with_reducible rfl
                     rotate_left
                     ·simp only [Act.put,sA_,s0_,s1_,i64_w,i32_w]
                      rfl
                     refine pure_ (i:=19) (N:=some 75) (v:=?_) (a':=?_) #[true,true,true,true,true,true,true,true,true,true,true,true,true,true,true,true,true,true,true,true,false,false,false,false,false,false,false,false,false,false,false,false] rfl rfl (any_of HT_.out (by kernel_rfl)) (fun _ _ _ h => h) (Or.inl ⟨by rfl, ?_⟩) ?_ ?_
                     rotate_left
                     ·intro w'
                      go_simp
                      with_reducible rfl
                     rotate_left
                     ·simp only [Act.put,sA_,s0_,s1_,i64_w,i32_w]
                      rfl
                     refine pure_ (i:=20) (N:=some 76) (v:=?_) (a':=?_) #[true,true,true,true,true,true,true,true,true,true,true,true,true,true,true,true,true,true,true,true,true,false,false,false,false,false,false,false,false,false,false,false] rfl rfl (any_of HT_.out (by kernel_rfl)) (fun _ _ _ h => h) (Or.inl ⟨by rfl, ?_⟩) ?_ ?_
                     rotate_left
                     ·intro w'
                      go_simp
                      with_reducible rfl
                     rotate_left
                     ·simp only [Act.put,sA_,s0_,s1_,i64_w,i32_w]
                      rfl
                     refine pure_ (i:=21) (N:=some 77) (v:=?_) (a':=?_) #[true,true,true,true,true,true,true,true,true,true,true,true,true,true,true,true,true,true,true,true,true,true,false,false,false,false,false,false,false,false,false,false] rfl rfl (any_of HT_.out (by kernel_rfl)) (fun _ _ _ h => h) (Or.inl ⟨by rfl, ?_⟩) ?_ ?_
                     rotate_left
                     ·intro w'
                      go_simp
                      with_reducible rfl
                     rotate_left
                     ·simp only [Act.put,sA_,s0_,s1_,i64_w,i32_w]
                      rfl
                     refine pure_ (i:=22) (N:=some 78) (v:=?_) (a':=?_) #[true,true,true,true,true,true,true,true,true,true,true,true,true,true,true,true,true,true,true,true,true,true,true,false,false,false,false,false,false,false,false,false] rfl rfl (any_of HT_.out (by kernel_rfl)) (fun _ _ _ h => h) (Or.inl ⟨by rfl, ?_⟩) ?_ ?_
                     rotate_left
                     ·intro w'
                      go_simp
                      with_reducible rfl
                     rotate_left
                     ·simp only [Act.put,sA_,s0_,s1_,i64_w,i32_w]
                      rfl
                     refine pure_ (i:=24) (N:=some 80) (v:=?_) (a':=?_) #[true,true,true,true,true,true,true,true,true,true,true,true,true,true,true,true,true,true,true,true,true,true,true,false,true,false,false,false,false,false,false,false] rfl rfl (any_of HT_.out (by kernel_rfl)) (fun _ _ _ h => h) (Or.inl ⟨by rfl, ?_⟩) ?_ ?_
                     rotate_left
                     ·intro w'
                      go_simp
                      with_reducible rfl
                     rotate_left
                     ·simp only [Act.put,sA_,s0_,s1_,i64_w,i32_w]
                      rfl
                     refine pure_ (i:=25) (N:=some 81) (v:=?_) (a':=?_) #[true,true,true,true,true,true,true,true,true,true,true,true,true,true,true,true,true,true,true,true,true,true,true,false,true,true,false,false,false,false,false,false] rfl rfl (any_of HT_.out (by kernel_rfl)) (fun _ _ _ h => h) (Or.inl ⟨by rfl, ?_⟩) ?_ ?_
                     rotate_left
                     ·intro w'
                      go_simp
                      with_reducible rfl
                     rotate_left
                     ·simp only [Act.put,sA_,s0_,s1_,i64_w,i32_w]
                      rfl
                     refine pure_ (i:=26) (N:=some 82) (v:=?_) (a':=?_) #[true,true,true,true,true,true,true,true,true,true,true,true,true,true,true,true,true,true,true,true,true,true,true,false,true,true,true,false,false,false,false,false] rfl rfl (any_of HT_.out (by kernel_rfl)) (fun _ _ _ h => h) (Or.inl ⟨by rfl, ?_⟩) ?_ ?_
                     rotate_left
                     ·intro w'
                      go_simp
                      with_reducible rfl
                     rotate_left
                     ·simp only [Act.put,sA_,s0_,s1_,i64_w,i32_w]
                      rfl
                     refine pure_ (i:=29) (N:=some 85) (v:=?_) (a':=?_) #[true,true,true,true,true,true,true,true,true,true,true,true,true,true,true,true,true,true,true,true,true,true,true,false,true,true,true,false,false,true,false,false] rfl rfl (any_of HT_.out (by kernel_rfl)) (fun _ _ _ h => h) (Or.inl ⟨by rfl, ?_⟩) ?_ ?_
                     rotate_left
                     ·intro w'
                      go_simp
                      with_reducible rfl
                     rotate_left
                     ·simp only [Act.put,sA_,s0_,s1_,i64_w,i32_w]
                      rfl
                     refine take_ (i:=23) (N:=some 79) (v:=?_) (a':=?_) #[true,true,true,true,true,true,true,true,true,true,true,true,true,true,true,true,true,true,true,true,true,true,true,true,true,true,true,false,false,true,false,false] rfl rfl (take_ofW HT_.out HW_.out (by kernel_rfl)) (fun _ _ _ h => h) (Or.inl ⟨by rfl, ?_⟩) hHeld ?_ ?_
                     rotate_left
                     ·rintro w' ⟨s0,s1,s2,s3,s4,s5⟩
                      go_simp
                      with_reducible rfl
                     rotate_left
                     ·simp only [Act.put,sA_,s0_,s1_,i64_w,i32_w]
                      rfl
                     refine take_ (i:=27) (N:=some 83) (v:=?_) (a':=?_) #[true,true,true,true,true,true,true,true,true,true,true,true,true,true,true,true,true,true,true,true,true,true,true,true,true,true,true,true,false,true,false,false] rfl rfl (take_ofW HT_.out HW_.out (by kernel_rfl)) (fun _ _ _ h => h) (Or.inl ⟨by rfl, ?_⟩) hHeld ?_ ?_
                     rotate_left
                     ·rintro w' ⟨s0,s1,s2,s3,s4,s5⟩
                      go_simp
                      with_reducible rfl
                     rotate_left
                     ·simp only [Act.put,sA_,s0_,s1_,i64_w,i32_w]
                      rfl
                     refine one_ (i:=28) (N:=some 84) #[true,true,true,true,true,true,true,true,true,true,true,true,true,true,true,true,true,true,true,true,true,true,true,true,true,true,true,true,true,true,false,false] rfl rfl (one_of HT_.out (by kernel_rfl)) (by decide) (fun K hK => ?_);refine goes_ Try.func48 (by kernel_rfl) rfl #[.agg #[.slice A0_0 l0_0.length c0_0, .slice (some ad178) l0_1.length c0_1], .int .i64 (rd (rd_L1 l0_1 x4_2) x6_4)] (by rfl) rfl rfl (by (try simp only [List.map_toArray,List.map_cons,List.map_nil]);first | done | rfl | (simp only [List.length_drop,List.length_take];rfl)) ?_
                     with_reducible refine (spec_l18Find.calls k4 _ _ l0_0 _ _ l0_1 (rd (rd_L1 l0_1 x4_2) x6_4) t187 _ ?side1 ?side2 ?side3 ?side4 A29.out).mono ?_
                     (case side1 => repeat (first | exact (Kd.C_below HR0_0.out (by repeat (first | (with_reducible first | exact HB.out | apply below_alloc | apply pw_below_drewN | apply below_drew1 | refine below_set ?_ GE176.out) | exact HB.out))) | (with_reducible refine Kd.C_alloc ?_ _) | (with_reducible refine Kd.C_drewN ?_ _) | (with_reducible refine Kd.C_drew ?_)))
                     (case side2 => exact HC0_0.out)
                     (case side3 => repeat (first | exact (Kd.C_below HR0_1.out (by repeat (first | (with_reducible first | exact HB.out | apply below_alloc | apply pw_below_drewN | apply below_drew1 | refine below_set ?_ GE176.out) | exact HB.out))) | (with_reducible refine Kd.C_alloc ?_ _) | (with_reducible refine Kd.C_drewN ?_ _) | (with_reducible refine Kd.C_drew ?_)))
                     (case side4 => exact HC0_1.out)
                     rintro e w32 ⟨rfl,hb⟩;refine ⟨_,rfl, ?_⟩;have n0_:=am_ (blk_below (g:=gb176) (o := .cells #[.slice A0_0 l0_0.length c0_0, .slice (some ad178) l0_1.length c0_1] 27 (0,0)) (by (with_reducible repeat (first | refine blk_drewN ?_ _ | refine blk_drew ?_ | refine blk_alloc ?_ _));exact BK176.out) hb);have n1_:=am_ (below_step (by repeat (first | (with_reducible first | exact HB.out | apply below_alloc | apply pw_below_drewN | apply below_drew1 | refine below_set ?_ GE176.out) | exact HB.out)) hb);clear BK176;clear HB;have BK176:=n0_;have HB:=n1_;clear n0_ n1_;(try clear hb);(try clear hb2);(try clear hk);(try clear hi);refine hK.out _ _ ⟨(blk_cell BK176.out 0).trans rfl,(blk_cell BK176.out 1).trans rfl,((HB.out.cell (World.block_lt_of_cell? w _ hw182_0)).trans hw182_0),((HB.out.cell (World.block_lt_of_cell? w _ hw184_0)).trans hw184_0),((HB.out.cell (World.block_lt_of_cell? w _ hw185_0)).trans hw185_0),((HB.out.cell (World.block_lt_of_cell? w _ hw186_0)).trans hw186_0)⟩ (fun hHeld => ?_);clear hK K;refine norm_ (a':=?_) ?_ ?_
                     rotate_left
                     ·show Act.put _ (some 84) _ = _
                      simp only [Act.put,sA_,s0_,s1_,i64_w,i32_w]
                      rfl
                     refine pure_ (i:=30) (N:=some 86) (v:=?_) (a':=?_) #[true,true,true,true,true,true,true,true,true,true,true,true,true,true,true,true,true,true,true,true,true,true,true,true,true,true,true,true,true,true,true,false] rfl rfl (any_of HT_.out (by kernel_rfl)) (fun _ _ _ h => h) (Or.inl ⟨by rfl, ?_⟩) ?_ ?_
                     rotate_left
                     ·intro w'
                      go_simp
                      with_reducible rfl
                     rotate_left
                     ·simp only [Act.put,sA_,s0_,s1_,i64_w,i32_w]
                      rfl
                     refine pure_ (i:=31) (N:=some 87) (v:=?_) (a':=?_) #[true,true,true,true,true,true,true,true,true,true,true,true,true,true,true,true,true,true,true,true,true,true,true,true,true,true,true,true,true,true,true,true] rfl rfl (any_of HT_.out (by kernel_rfl)) (fun _ _ _ h => h) (Or.inl ⟨by rfl, ?_⟩) ?_ ?_
                     rotate_left
                     ·intro w'
                      go_simp
                      with_reducible rfl
                     rotate_left
                     ·simp only [Act.put,sA_,s0_,s1_,i64_w,i32_w]
                      rfl
                     refine done_ (done_of HT_.out (by kernel_rfl)) ?_
                     try go_wp2
                     go_roundg k4
                     case measure => have:=HJ1.out;have:=HK2.out;have:=HJ10.out;have:=HK4.out;omega
                     case rel => exact ⟨(wrap64 (x6_4 + 1)),(by first | rfl | (simp;done) | (simp [*];done)),H',⟨by have:=HJ1.out;have:=HK2.out;have:=HJ10.out;have:=HK4.out;omega⟩,⟨by (with_reducible repeat (first | refine blk_drewN ?_ _ | refine blk_drew ?_ | refine blk_alloc ?_ _));exact BK176.out⟩,⟨by repeat (first | (with_reducible first | exact HB.out | apply below_alloc | apply pw_below_drewN | apply below_drew1 | refine below_set ?_ GE176.out) | exact HB.out)⟩⟩
                    ·rw [if_neg c30] at H;have c30b0 : (t187 == x4_2) = false:=beq_eq_false_iff_ne.mpr c30;have c30b1 : (t187 != x4_2) = true:=bne_iff_ne.mpr c30;obtain rfl:=Option.some.inj H
                     try go_wp2
                     have n0_:=am_ (blk_drew BK176.out);have n1_:=am_ (below_drew1 HB.out);clear BK176;clear HB;have BK176:=n0_;have HB:=n1_;clear n0_ n1_;have p182 : 0 ≤ (x6_4 : Int):=of_decide_eq_true (by first | (with_reducible assumption) | assumption);have q182 : x6_4 < ((rd_L1 l0_1 x4_2).length : Int):=of_decide_eq_true (by first | (with_reducible assumption) | assumption);obtain ⟨ad182,e182,hx182_0⟩ := Kd.at_int HR178_0.out x6_4 p182 q182;have hw182_0:=hx182_0;cases e182;replace hx182_0:=(HB.out.cell (World.block_lt_of_cell? w _ hx182_0)).trans hx182_0;replace p182:=eq_true p182;replace q182:=eq_true q182;have p184 : 0 ≤ ((ji24) : Int):=of_decide_eq_true (by first | (with_reducible assumption) | assumption);have q184 : (ji24) < ((rd_L1 l0_1 x4_2).length : Int):=of_decide_eq_true (by first | (with_reducible assumption) | assumption);obtain ⟨ad184,e184,hx184_0⟩ := Kd.at_int HR178_0.out (ji24) p184 q184;have hw184_0:=hx184_0;obtain rfl : ad182 = ad184:=(by injection e184);replace hx184_0:=(HB.out.cell (World.block_lt_of_cell? w _ hx184_0)).trans hx184_0;replace p184:=eq_true p184;replace q184:=eq_true q184;have p185 : 0 ≤ (x6_4 : Int):=of_decide_eq_true (by first | (with_reducible assumption) | assumption);have q185 : x6_4 < ((rd_L1 l0_1 x4_2).length : Int):=of_decide_eq_true (by first | (with_reducible assumption) | assumption);obtain ⟨ad185,e185,hx185_0⟩ := Kd.at_int HR178_0.out x6_4 p185 q185;have hw185_0:=hx185_0;obtain rfl : ad182 = ad185:=(by injection e185);replace hx185_0:=(HB.out.cell (World.block_lt_of_cell? w _ hx185_0)).trans hx185_0;replace p185:=eq_true p185;replace q185:=eq_true q185;have p186 : 0 ≤ (x6_4 : Int):=of_decide_eq_true (by first | (with_reducible assumption) | assumption);have q186 : x6_4 < ((rd_L1 l0_1 x4_2).length : Int):=of_decide_eq_true (by first | (with_reducible assumption) | assumption);obtain ⟨ad186,e186,hx186_0⟩ := Kd.at_int HR178_0.out x6_4 p186 q186;have hw186_0:=hx186_0;obtain rfl : ad182 = ad186:=(by injection e186);replace hx186_0:=(HB.out.cell (World.block_lt_of_cell? w _ hx186_0)).trans hx186_0;replace p186:=eq_true p186;replace q186:=eq_true q186
                     refine start_ (n:=32) (S:=fun w' => w'.cell? ⟨gb176,0,none⟩ = some (.slice A0_0 l0_0.length c0_0) ∧ w'.cell? ⟨gb176,1,none⟩ = some (.slice (some ad178) l0_1.length c0_1) ∧ w'.cell? (ad182.add (x6_4).toNat) = some (.int .i64 (rd (rd_L1 l0_1 x4_2) x6_4)) ∧ w'.cell? (ad182.add ((ji24)).toNat) = some (.int .i64 (rd (rd_L1 l0_1 x4_2) (ji24))) ∧ w'.cell? (ad182.add (x6_4).toNat) = some (.int .i64 (rd (rd_L1 l0_1 x4_2) x6_4)) ∧ w'.cell? (ad182.add (x6_4).toNat) = some (.int .i64 (rd (rd_L1 l0_1 x4_2) x6_4))) (ds := []) #[false,false,false,false,false,false,false,false,false,false,false,false,false,false,false,false,false,false,false,false,false,false,false,false,false,false,false,false,false,false,false,false] (by kernel_rfl) rfl rfl ⟨(blk_cell BK176.out 0).trans rfl,(blk_cell BK176.out 1).trans rfl,((HB.out.cell (World.block_lt_of_cell? w _ hw182_0)).trans hw182_0),((HB.out.cell (World.block_lt_of_cell? w _ hw184_0)).trans hw184_0),((HB.out.cell (World.block_lt_of_cell? w _ hw185_0)).trans hw185_0),((HB.out.cell (World.block_lt_of_cell? w _ hw186_0)).trans hw186_0)⟩ (fun hHeld => ?_);refine with_tabW spec_l18Good.tab13 spec_l18Good.bits13 (fun HT_ HW_ => ?_)
                     generalize wr.drew = w33 at BK176 HB hx182_0 hx184_0 hx185_0 hx186_0 hHeld ⊢;refine pure_ (i:=0) (N:=some 56) (v:=?_) (a':=?_) #[true,false,false,false,false,false,false,false,false,false,false,false,false,false,false,false,false,false,false,false,false,false,false,false,false,false,false,false,false,false,false,false] rfl rfl (any_of HT_.out (by kernel_rfl)) (fun _ _ _ h => h) (Or.inl ⟨by rfl, ?_⟩) ?_ ?_
                     rotate_left
                     ·intro w'
                      go_simp
                      with_reducible rfl
                     rotate_left
                     ·simp only [Act.put,sA_,s0_,s1_,i64_w,i32_w]
                      rfl
                     refine pure_ (i:=1) (N:=some 57) (v:=?_) (a':=?_) #[true,true,false,false,false,false,false,false,false,false,false,false,false,false,false,false,false,false,false,false,false,false,false,false,false,false,false,false,false,false,false,false] rfl rfl (any_of HT_.out (by kernel_rfl)) (fun _ _ _ h => h) (Or.inl ⟨by rfl, ?_⟩) ?_ ?_
                     rotate_left
                     ·intro w'
                      go_simp
                      with_reducible rfl
                     rotate_left
                     ·simp only [Act.put,sA_,s0_,s1_,i64_w,i32_w]
                      rfl
                     refine pure_ (i:=2) (N:=some 58) (v:=?_) (a':=?_) #[true,true,true,false,false,false,false,false,false,false,false,false,false,false,false,false,false,false,false,false,false,false,false,false,false,false,false,false,false,false,false,false] rfl rfl (any_of HT_.out (by kernel_rfl)) (fun _ _ _ h => h) (Or.inl ⟨by rfl, ?_⟩) ?_ ?_
                     rotate_left
                     ·intro w'
                      go_simp
                      with_reducible rfl
                     rotate_left
                     ·simp only [Act.put,sA_,s0_,s1_,i64_w,i32_w]
                      rfl
                     refine take_ (i:=3) (N:=some 59) (v:=?_) (a':=?_) #[true,true,true,true,false,false,false,false,false,false,false,false,false,false,false,false,false,false,false,false,false,false,false,false,false,false,false,false,false,false,false,false] rfl rfl (take_ofW HT_.out HW_.out (by kernel_rfl)) (fun _ _ _ h => h) (Or.inl ⟨by rfl, ?_⟩) hHeld ?_ ?_
                     rotate_left
                     ·rintro w' ⟨s0,s1,s2,s3,s4,s5⟩
                      go_simp
                      with_reducible rfl
                     rotate_left
                     ·simp only [Act.put,sA_,s0_,s1_,i64_w,i32_w]
                      rfl
                     refine one_ (i:=4) (N:=some 60) #[true,true,true,true,true,false,false,false,false,false,false,false,false,false,false,false,false,false,false,false,false,false,false,false,false,false,false,false,false,false,false,false] rfl rfl (one_of HT_.out (by kernel_rfl)) (by decide) (fun K hK => ?_);refine goes_ Try.func81 (by kernel_rfl) rfl #[.int .i64 (rd (rd_L1 l0_1 x4_2) x6_4), .int .i64 1, .int .i64 99] (by rfl) rfl rfl (by (try simp only [List.map_toArray,List.map_cons,List.map_nil]);first | done | rfl | (simp only [List.length_drop,List.length_take];rfl)) ?_
                     with_reducible refine (spec_l1In.calls (rd (rd_L1 l0_1 x4_2) x6_4) 1 99 true _ A21.out).mono ?_
                     rintro e w' ⟨rfl,⟨nd,rfl⟩⟩;refine ⟨_,rfl, ?_⟩;refine hK.out _ _ ⟨(blk_cell BK176.out 0).trans rfl,(blk_cell BK176.out 1).trans rfl,((HB.out.cell (World.block_lt_of_cell? w _ hw182_0)).trans hw182_0),((HB.out.cell (World.block_lt_of_cell? w _ hw184_0)).trans hw184_0),((HB.out.cell (World.block_lt_of_cell? w _ hw185_0)).trans hw185_0),((HB.out.cell (World.block_lt_of_cell? w _ hw186_0)).trans hw186_0)⟩ (fun hHeld => ?_);clear hK K;refine norm_ (a':=?_) ?_ ?_
                     rotate_left
                     ·show Act.put _ (some 60) _ = _
                      simp only [Act.put,sA_,s0_,s1_,i64_w,i32_w]
                      rfl
                     refine pure_ (i:=5) (N:=some 61) (v:=?_) (a':=?_) #[true,true,true,true,true,true,false,false,false,false,false,false,false,false,false,false,false,false,false,false,false,false,false,false,false,false,false,false,false,false,false,false] rfl rfl (any_of HT_.out (by kernel_rfl)) (fun _ _ _ h => h) (Or.inl ⟨by rfl, ?_⟩) ?_ ?_
                     rotate_left
                     ·intro w'
                      go_simp
                      with_reducible rfl
                     rotate_left
                     ·simp only [Act.put,sA_,s0_,s1_,i64_w,i32_w]
                      rfl
                     refine pure_ (i:=6) (N:=some 62) (v:=?_) (a':=?_) #[true,true,true,true,true,true,true,false,false,false,false,false,false,false,false,false,false,false,false,false,false,false,false,false,false,false,false,false,false,false,false,false] rfl rfl (any_of HT_.out (by kernel_rfl)) (fun _ _ _ h => h) (Or.inl ⟨by rfl, ?_⟩) ?_ ?_
                     rotate_left
                     ·intro w'
                      go_simp
                      with_reducible rfl
                     rotate_left
                     ·simp only [Act.put,sA_,s0_,s1_,i64_w,i32_w]
                      rfl
                     refine pure_ (i:=7) (N:=some 63) (v:=?_) (a':=?_) #[true,true,true,true,true,true,true,true,false,false,false,false,false,false,false,false,false,false,false,false,false,false,false,false,false,false,false,false,false,false,false,false] rfl rfl (any_of HT_.out (by kernel_rfl)) (fun _ _ _ h => h) (Or.inl ⟨by rfl, ?_⟩) ?_ ?_
                     rotate_left
                     ·intro w'
                      go_simp
                      with_reducible rfl
                     rotate_left
                     ·simp only [Act.put,sA_,s0_,s1_,i64_w,i32_w]
                      rfl
                     refine pure_ (i:=8) (N:=some 64) (v:=?_) (a':=?_) #[true,true,true,true,true,true,true,true,true,false,false,false,false,false,false,false,false,false,false,false,false,false,false,false,false,false,false,false,false,false,false,false] rfl rfl (any_of HT_.out (by kernel_rfl)) (fun _ _ _ h => h) (Or.inl ⟨by rfl, ?_⟩) ?_ ?_
                     rotate_left
                     ·intro w'
                      go_simp
                      with_reducible rfl
                     rotate_left
                     ·simp only [Act.put,sA_,s0_,s1_,i64_w,i32_w]
                      rfl
                     refine pure_ (i:=9) (N:=some 65) (v:=?_) (a':=?_) #[true,true,true,true,true,true,true,true,true,true,false,false,false,false,false,false,false,false,false,false,false,false,false,false,false,false,false,false,false,false,false,false] rfl rfl (any_of HT_.out (by kernel_rfl)) (fun _ _ _ h => h) (Or.inl ⟨by rfl, ?_⟩) ?_ ?_
                     rotate_left
                     ·intro w'
                      go_simp
                      with_reducible rfl
                     rotate_left
                     ·simp only [Act.put,sA_,s0_,s1_,i64_w,i32_w]
                      rfl
                     refine pure_ (i:=10) (N:=some 66) (v:=?_) (a':=?_) #[true,true,true,true,true,true,true,true,true,true,true,false,false,false,false,false,false,false,false,false,false,false,false,false,false,false,false,false,false,false,false,false] rfl rfl (any_of HT_.out (by kernel_rfl)) (fun _ _ _ h => h) (Or.inl ⟨by rfl, ?_⟩) ?_ ?_
                     rotate_left
                     ·intro w'
                      go_simp
                      with_reducible rfl
                     rotate_left
                     ·simp only [Act.put,sA_,s0_,s1_,i64_w,i32_w]
                      rfl
                     refine pure_ (i:=11) (N:=some 67) (v:=?_) (a':=?_) #[true,true,true,true,true,true,true,true,true,true,true,true,false,false,false,false,false,false,false,false,false,false,false,false,false,false,false,false,false,false,false,false] rfl rfl (any_of HT_.out (by kernel_rfl)) (fun _ _ _ h => h) (Or.inl ⟨by rfl, ?_⟩) ?_ ?_
                     rotate_left
                     ·intro w'
                      go_simp
                      with_reducible rfl
                     rotate_left
                     ·simp only [Act.put,sA_,s0_,s1_,i64_w,i32_w]
                      rfl
                     refine pure_ (i:=12) (N:=some 68) (v:=?_) (a':=?_) #[true,true,true,true,true,true,true,true,true,true,true,true,true,false,false,false,false,false,false,false,false,false,false,false,false,false,false,false,false,false,false,false] rfl rfl (any_of HT_.out (by kernel_rfl)) (fun _ _ _ h => h) (Or.inl ⟨by rfl, ?_⟩) ?_ ?_
                     rotate_left
                     ·intro w'
                      go_simp
                      with_reducible rfl
                     rotate_left
                     ·simp only [Act.put,sA_,s0_,s1_,i64_w,i32_w]
                      rfl
                     refine pure_ (i:=13) (N:=some 69) (v:=?_) (a':=?_) #[true,true,true,true,true,true,true,true,true,true,true,true,true,true,false,false,false,false,false,false,false,false,false,false,false,false,false,false,false,false,false,false] rfl rfl (any_of HT_.out (by kernel_rfl)) (fun _ _ _ h => h) (Or.inl ⟨by rfl, ?_⟩) ?_ ?_
                     rotate_left
                     ·intro w'
                      go_simp
                      with_reducible rfl
                     rotate_left
                     ·simp only [Act.put,sA_,s0_,s1_,i64_w,i32_w]
                      rfl
                     refine pure_ (i:=15) (N:=some 71) (v:=?_) (a':=?_) #[true,true,true,true,true,true,true,true,true,true,true,true,true,true,false,true,false,false,false,false,false,false,false,false,false,false,false,false,false,false,false,false] rfl rfl (any_of HT_.out (by kernel_rfl)) (fun _ _ _ h => h) (Or.inl ⟨by rfl, ?_⟩) ?_ ?_
                     rotate_left
                     ·intro w'
                      go_simp
                      with_reducible rfl
                     rotate_left
                     ·simp only [Act.put,sA_,s0_,s1_,i64_w,i32_w]
                      rfl
                     refine pure_ (i:=16) (N:=some 72) (v:=?_) (a':=?_) #[true,true,true,true,true,true,true,true,true,true,true,true,true,true,false,true,true,false,false,false,false,false,false,false,false,false,false,false,false,false,false,false] rfl rfl (any_of HT_.out (by kernel_rfl)) (fun _ _ _ h => h) (Or.inl ⟨by rfl, ?_⟩) ?_ ?_
                     rotate_left
                     ·intro w'
                      go_simp
                      with_reducible rfl
                     rotate_left
                     ·simp only [Act.put,sA_,s0_,s1_,i64_w,i32_w]
                      rfl
                     refine pure_ (i:=17) (N:=some 73) (v:=?_) (a':=?_) #[true,true,true,true,true,true,true,true,true,true,true,true,true,true,false,true,true,true,false,false,false,false,false,false,false,false,false,false,false,false,false,false] rfl rfl (any_of HT_.out (by kernel_rfl)) (fun _ _ _ h => h) (Or.inl ⟨by rfl, ?_⟩) ?_ ?_
                     rotate_left
                     ·intro w'
                      go_simp
                      with_reducible rfl
                     rotate_left
                     ·simp only [Act.put,sA_,s0_,s1_,i64_w,i32_w]
                      rfl
                     refine take_ (i:=14) (N:=some 70) (v:=?_) (a':=?_) #[true,true,true,true,true,true,true,true,true,true,true,true,true,true,true,true,true,true,false,false,false,false,false,false,false,false,false,false,false,false,false,false] rfl rfl (take_ofW HT_.out HW_.out (by kernel_rfl)) (fun _ _ _ h => h) (Or.inl ⟨by rfl, ?_⟩) hHeld ?_ ?_
                     rotate_left
                     ·rintro w' ⟨s0,s1,s2,s3,s4,s5⟩
                      go_simp
                      with_reducible rfl
                     rotate_left
                     ·simp only [Act.put,sA_,s0_,s1_,i64_w,i32_w]
                      rfl
                     refine take_ (i:=18) (N:=some 74) (v:=?_) (a':=?_) #[true,true,true,true,true,true,true,true,true,true,true,true,true,true,true,true,true,true,true,false,false,false,false,false,false,false,false,false,false,false,false,false] rfl rfl (take_ofW HT_.out HW_.out (by kernel_rfl)) (fun _ _ _ h => h) (Or.inl ⟨by rfl, ?_⟩) hHeld ?_ ?_
                     rotate_left
                     ·rintro w' ⟨s0,s1,s2,s3,s4,s5⟩
                      go_simp
                      with_reducible rfl
                     rotate_left
                     ·simp only [Act.put,sA_,s0_,s1_,i64_w,i32_w]
                      rfl
                     refine pure_ (i:=19) (N:=some 75) (v:=?_) (a':=?_) #[true,true,true,true,true,true,true,true,true,true,true,true,true,true,true,true,true,true,true,true,false,false,false,false,false,false,false,false,false,false,false,false] rfl rfl (any_of HT_.out (by kernel_rfl)) (fun _ _ _ h => h) (Or.inl ⟨by rfl, ?_⟩) ?_ ?_
                     rotate_left
                     ·intro w'
                      go_simp
                      with_reducible rfl
                     rotate_left
                     ·simp only [Act.put,sA_,s0_,s1_,i64_w,i32_w]
                      rfl
                     refine pure_ (i:=20) (N:=some 76) (v:=?_) (a':=?_) #[true,true,true,true,true,true,true,true,true,true,true,true,true,true,true,true,true,true,true,true,true,false,false,false,false,false,false,false,false,false,false,false] rfl rfl (any_of HT_.out (by kernel_rfl)) (fun _ _ _ h => h) (Or.inl ⟨by rfl, ?_⟩) ?_ ?_
                     rotate_left
                     ·intro w'
                      go_simp
                      with_reducible rfl
                     rotate_left
                     ·simp only [Act.put,sA_,s0_,s1_,i64_w,i32_w]
                      rfl
                     refine pure_ (i:=21) (N:=some 77) (v:=?_) (a':=?_) #[true,true,true,true,true,true,true,true,true,true,true,true,true,true,true,true,true,true,true,true,true,true,false,false,false,false,false,false,false,false,false,false] rfl rfl (any_of HT_.out (by kernel_rfl)) (fun _ _ _ h => h) (Or.inl ⟨by rfl, ?_⟩) ?_ ?_
                     rotate_left
                     ·intro w'
                      go_simp
                      with_reducible rfl
                     rotate_left
                     ·simp only [Act.put,sA_,s0_,s1_,i64_w,i32_w]
                      rfl
                     refine pure_ (i:=22) (N:=some 78) (v:=?_) (a':=?_) #[true,true,true,true,true,true,true,true,true,true,true,true,true,true,true,true,true,true,true,true,true,true,true,false,false,false,false,false,false,false,false,false] rfl rfl (any_of HT_.out (by kernel_rfl)) (fun _ _ _ h => h) (Or.inl ⟨by rfl, ?_⟩) ?_ ?_
                     rotate_left
                     ·intro w'
                      go_simp
                      with_reducible rfl
                     rotate_left
                     ·simp only [Act.put,sA_,s0_,s1_,i64_w,i32_w]
                      rfl
                     refine pure_ (i:=24) (N:=some 80) (v:=?_) (a':=?_) #[true,true,true,true,true,true,true,true,true,true,true,true,true,true,true,true,true,true,true,true,true,true,true,false,true,false,false,false,false,false,false,false] rfl rfl (any_of HT_.out (by kernel_rfl)) (fun _ _ _ h => h) (Or.inl ⟨by rfl, ?_⟩) ?_ ?_
                     rotate_left
                     ·intro w'
                      go_simp
                      with_reducible rfl
                     rotate_left
                     ·simp only [Act.put,sA_,s0_,s1_,i64_w,i32_w]
                      rfl
                     refine pure_ (i:=25) (N:=some 81) (v:=?_) (a':=?_) #[true,true,true,true,true,true,true,true,true,true,true,true,true,true,true,true,true,true,true,true,true,true,true,false,true,true,false,false,false,false,false,false] rfl rfl (any_of HT_.out (by kernel_rfl)) (fun _ _ _ h => h) (Or.inl ⟨by rfl, ?_⟩) ?_ ?_
                     rotate_left
                     ·intro w'
                      go_simp
                      with_reducible rfl
                     rotate_left
                     ·simp only [Act.put,sA_,s0_,s1_,i64_w,i32_w]
                      rfl
                     refine pure_ (i:=26) (N:=some 82) (v:=?_) (a':=?_) #[true,true,true,true,true,true,true,true,true,true,true,true,true,true,true,true,true,true,true,true,true,true,true,false,true,true,true,false,false,false,false,false] rfl rfl (any_of HT_.out (by kernel_rfl)) (fun _ _ _ h => h) (Or.inl ⟨by rfl, ?_⟩) ?_ ?_
                     rotate_left
                     ·intro w'
                      go_simp
                      with_reducible rfl
                     rotate_left
                     ·simp only [Act.put,sA_,s0_,s1_,i64_w,i32_w]
                      rfl
                     refine pure_ (i:=29) (N:=some 85) (v:=?_) (a':=?_) #[true,true,true,true,true,true,true,true,true,true,true,true,true,true,true,true,true,true,true,true,true,true,true,false,true,true,true,false,false,true,false,false] rfl rfl (any_of HT_.out (by kernel_rfl)) (fun _ _ _ h => h) (Or.inl ⟨by rfl, ?_⟩) ?_ ?_
                     rotate_left
                     ·intro w'
                      go_simp
                      with_reducible rfl
                     rotate_left
                     ·simp only [Act.put,sA_,s0_,s1_,i64_w,i32_w]
                      rfl
                     refine take_ (i:=23) (N:=some 79) (v:=?_) (a':=?_) #[true,true,true,true,true,true,true,true,true,true,true,true,true,true,true,true,true,true,true,true,true,true,true,true,true,true,true,false,false,true,false,false] rfl rfl (take_ofW HT_.out HW_.out (by kernel_rfl)) (fun _ _ _ h => h) (Or.inl ⟨by rfl, ?_⟩) hHeld ?_ ?_
                     rotate_left
                     ·rintro w' ⟨s0,s1,s2,s3,s4,s5⟩
                      go_simp
                      with_reducible rfl
                     rotate_left
                     ·simp only [Act.put,sA_,s0_,s1_,i64_w,i32_w]
                      rfl
                     refine take_ (i:=27) (N:=some 83) (v:=?_) (a':=?_) #[true,true,true,true,true,true,true,true,true,true,true,true,true,true,true,true,true,true,true,true,true,true,true,true,true,true,true,true,false,true,false,false] rfl rfl (take_ofW HT_.out HW_.out (by kernel_rfl)) (fun _ _ _ h => h) (Or.inl ⟨by rfl, ?_⟩) hHeld ?_ ?_
                     rotate_left
                     ·rintro w' ⟨s0,s1,s2,s3,s4,s5⟩
                      go_simp
                      with_reducible rfl
                     rotate_left
                     ·simp only [Act.put,sA_,s0_,s1_,i64_w,i32_w]
                      rfl
                     refine one_ (i:=28) (N:=some 84) #[true,true,true,true,true,true,true,true,true,true,true,true,true,true,true,true,true,true,true,true,true,true,true,true,true,true,true,true,true,true,false,false] rfl rfl (one_of HT_.out (by kernel_rfl)) (by decide) (fun K hK => ?_);refine goes_ Try.func48 (by kernel_rfl) rfl #[.agg #[.slice A0_0 l0_0.length c0_0, .slice (some ad178) l0_1.length c0_1], .int .i64 (rd (rd_L1 l0_1 x4_2) x6_4)] (by rfl) rfl rfl (by (try simp only [List.map_toArray,List.map_cons,List.map_nil]);first | done | rfl | (simp only [List.length_drop,List.length_take];rfl)) ?_
                     with_reducible refine (spec_l18Find.calls k4 _ _ l0_0 _ _ l0_1 (rd (rd_L1 l0_1 x4_2) x6_4) t187 _ ?side1 ?side2 ?side3 ?side4 A29.out).mono ?_
                     (case side1 => repeat (first | exact (Kd.C_below HR0_0.out (by repeat (first | (with_reducible first | exact HB.out | apply below_alloc | apply pw_below_drewN | apply below_drew1 | refine below_set ?_ GE176.out) | exact HB.out))) | (with_reducible refine Kd.C_alloc ?_ _) | (with_reducible refine Kd.C_drewN ?_ _) | (with_reducible refine Kd.C_drew ?_)))
                     (case side2 => exact HC0_0.out)
                     (case side3 => repeat (first | exact (Kd.C_below HR0_1.out (by repeat (first | (with_reducible first | exact HB.out | apply below_alloc | apply pw_below_drewN | apply below_drew1 | refine below_set ?_ GE176.out) | exact HB.out))) | (with_reducible refine Kd.C_alloc ?_ _) | (with_reducible refine Kd.C_drewN ?_ _) | (with_reducible refine Kd.C_drew ?_)))
                     (case side4 => exact HC0_1.out)
                     rintro e w34 ⟨rfl,hb⟩;refine ⟨_,rfl, ?_⟩;have n0_:=am_ (blk_below (g:=gb176) (o := .cells #[.slice A0_0 l0_0.length c0_0, .slice (some ad178) l0_1.length c0_1] 27 (0,0)) (by (with_reducible repeat (first | refine blk_drewN ?_ _ | refine blk_drew ?_ | refine blk_alloc ?_ _));exact BK176.out) hb);have n1_:=am_ (below_step (by repeat (first | (with_reducible first | exact HB.out | apply below_alloc | apply pw_below_drewN | apply below_drew1 | refine below_set ?_ GE176.out) | exact HB.out)) hb);clear BK176;clear HB;have BK176:=n0_;have HB:=n1_;clear n0_ n1_;(try clear hb);(try clear hb2);(try clear hk);(try clear hi);refine hK.out _ _ ⟨(blk_cell BK176.out 0).trans rfl,(blk_cell BK176.out 1).trans rfl,((HB.out.cell (World.block_lt_of_cell? w _ hw182_0)).trans hw182_0),((HB.out.cell (World.block_lt_of_cell? w _ hw184_0)).trans hw184_0),((HB.out.cell (World.block_lt_of_cell? w _ hw185_0)).trans hw185_0),((HB.out.cell (World.block_lt_of_cell? w _ hw186_0)).trans hw186_0)⟩ (fun hHeld => ?_);clear hK K;refine norm_ (a':=?_) ?_ ?_
                     rotate_left
                     ·show Act.put _ (some 84) _ = _
                      simp only [Act.put,sA_,s0_,s1_,i64_w,i32_w]
                      rfl
                     refine pure_ (i:=30) (N:=some 86) (v:=?_) (a':=?_) #[true,true,true,true,true,true,true,true,true,true,true,true,true,true,true,true,true,true,true,true,true,true,true,true,true,true,true,true,true,true,true,false] rfl rfl (any_of HT_.out (by kernel_rfl)) (fun _ _ _ h => h) (Or.inl ⟨by rfl, ?_⟩) ?_ ?_
                     rotate_left
                     ·intro w'
                      go_simp
                      with_reducible rfl
                     rotate_left
                     ·simp only [Act.put,sA_,s0_,s1_,i64_w,i32_w]
                      rfl
                     refine pure_ (i:=31) (N:=some 87) (v:=?_) (a':=?_) #[true,true,true,true,true,true,true,true,true,true,true,true,true,true,true,true,true,true,true,true,true,true,true,true,true,true,true,true,true,true,true,true] rfl rfl (any_of HT_.out (by kernel_rfl)) (fun _ _ _ h => h) (Or.inl ⟨by rfl, ?_⟩) ?_ ?_
                     rotate_left
                     ·intro w'
                      go_simp
                      with_reducible rfl
                     rotate_left
                     ·simp only [Act.put,sA_,s0_,s1_,i64_w,i32_w]
                      rfl
                     refine done_ (done_of HT_.out (by kernel_rfl)) ?_
                     try go_wp2
                     go_ret
                     exact ⟨by first | rfl | (simp [errW_none,errW_some] <;> rfl) | (simp only [← hji24];first | rfl | (simp [errW_none,errW_some] <;> rfl)) | (simp [*,errW_none,errW_some] <;> rfl),by repeat (first | (with_reducible first | exact HB.out | apply below_alloc | apply pw_below_drewN | apply below_drew1 | refine below_set ?_ GE176.out) | exact HB.out)⟩
                  ·rw [if_neg c26] at H
                   exact absurd H (by simp)
                 ·rw [if_neg c25] at H
                  exact absurd H (by simp)
                ·rw [if_neg c23] at H;have c23b0 : decide (0 < x6_4) = false:=decide_eq_false c23;clear c23;replace H:=Option.bind_eq_some_iff.mp H;obtain ⟨t189,A350,H⟩ := H;replace H : (if t189 = x4_2 then (spec_l18Good.l1 k4 x3_2 x4_2 (rd_L1 l0_1 x4_2) (wrap64 (x6_4 + 1)) l0_0 l0_1) else (some false)) = some r:=H;have A35:=am_ A350;clear A350
                 by_cases c36 : t189 = x4_2
                 ·rw [if_pos c36] at H;have c36b0 : (t189 == x4_2) = true:=beq_iff_eq.mpr c36;have c36b1 : (t189 != x4_2) = false:=bne_eq_false_iff_eq.mpr c36;clear c36;have H':=am_ H;clear H
                  try go_wp2
                  have n0_:=am_ (blk_drew BK176.out);have n1_:=am_ (below_drew1 HB.out);clear BK176;clear HB;have BK176:=n0_;have HB:=n1_;clear n0_ n1_;have p182 : 0 ≤ (x6_4 : Int):=of_decide_eq_true (by first | (with_reducible assumption) | assumption);have q182 : x6_4 < ((rd_L1 l0_1 x4_2).length : Int):=of_decide_eq_true (by first | (with_reducible assumption) | assumption);obtain ⟨ad182,e182,hx182_0⟩ := Kd.at_int HR178_0.out x6_4 p182 q182;have hw182_0:=hx182_0;cases e182;replace hx182_0:=(HB.out.cell (World.block_lt_of_cell? w _ hx182_0)).trans hx182_0;replace p182:=eq_true p182;replace q182:=eq_true q182;have p188 : 0 ≤ (x6_4 : Int):=of_decide_eq_true (by first | (with_reducible assumption) | assumption);have q188 : x6_4 < ((rd_L1 l0_1 x4_2).length : Int):=of_decide_eq_true (by first | (with_reducible assumption) | assumption);obtain ⟨ad188,e188,hx188_0⟩ := Kd.at_int HR178_0.out x6_4 p188 q188;have hw188_0:=hx188_0;obtain rfl : ad182 = ad188:=(by injection e188);replace hx188_0:=(HB.out.cell (World.block_lt_of_cell? w _ hx188_0)).trans hx188_0;replace p188:=eq_true p188;replace q188:=eq_true q188
                  refine start_ (n:=32) (S:=fun w' => w'.cell? ⟨gb176,0,none⟩ = some (.slice A0_0 l0_0.length c0_0) ∧ w'.cell? ⟨gb176,1,none⟩ = some (.slice (some ad178) l0_1.length c0_1) ∧ w'.cell? (ad182.add (x6_4).toNat) = some (.int .i64 (rd (rd_L1 l0_1 x4_2) x6_4)) ∧ w'.cell? (ad182.add (x6_4).toNat) = some (.int .i64 (rd (rd_L1 l0_1 x4_2) x6_4))) (ds := []) #[false,false,false,false,false,false,false,false,false,false,false,false,false,false,false,false,false,false,false,false,false,false,false,false,false,false,false,false,false,false,false,false] (by kernel_rfl) rfl rfl ⟨(blk_cell BK176.out 0).trans rfl,(blk_cell BK176.out 1).trans rfl,((HB.out.cell (World.block_lt_of_cell? w _ hw182_0)).trans hw182_0),((HB.out.cell (World.block_lt_of_cell? w _ hw188_0)).trans hw188_0)⟩ (fun hHeld => ?_);refine with_tabW spec_l18Good.tab13 spec_l18Good.bits13 (fun HT_ HW_ => ?_)
                  generalize wr.drew = w37 at BK176 HB hx182_0 hx188_0 hHeld ⊢;refine pure_ (i:=0) (N:=some 56) (v:=?_) (a':=?_) #[true,false,false,false,false,false,false,false,false,false,false,false,false,false,false,false,false,false,false,false,false,false,false,false,false,false,false,false,false,false,false,false] rfl rfl (any_of HT_.out (by kernel_rfl)) (fun _ _ _ h => h) (Or.inl ⟨by rfl, ?_⟩) ?_ ?_
                  rotate_left
                  ·intro w'
                   go_simp
                   with_reducible rfl
                  rotate_left
                  ·simp only [Act.put,sA_,s0_,s1_,i64_w,i32_w]
                   rfl
                  refine pure_ (i:=1) (N:=some 57) (v:=?_) (a':=?_) #[true,true,false,false,false,false,false,false,false,false,false,false,false,false,false,false,false,false,false,false,false,false,false,false,false,false,false,false,false,false,false,false] rfl rfl (any_of HT_.out (by kernel_rfl)) (fun _ _ _ h => h) (Or.inl ⟨by rfl, ?_⟩) ?_ ?_
                  rotate_left
                  ·intro w'
                   go_simp
                   with_reducible rfl
                  rotate_left
                  ·simp only [Act.put,sA_,s0_,s1_,i64_w,i32_w]
                   rfl
                  refine pure_ (i:=2) (N:=some 58) (v:=?_) (a':=?_) #[true,true,true,false,false,false,false,false,false,false,false,false,false,false,false,false,false,false,false,false,false,false,false,false,false,false,false,false,false,false,false,false] rfl rfl (any_of HT_.out (by kernel_rfl)) (fun _ _ _ h => h) (Or.inl ⟨by rfl, ?_⟩) ?_ ?_
                  rotate_left
                  ·intro w'
                   go_simp
                   with_reducible rfl
                  rotate_left
                  ·simp only [Act.put,sA_,s0_,s1_,i64_w,i32_w]
                   rfl
                  refine take_ (i:=3) (N:=some 59) (v:=?_) (a':=?_) #[true,true,true,true,false,false,false,false,false,false,false,false,false,false,false,false,false,false,false,false,false,false,false,false,false,false,false,false,false,false,false,false] rfl rfl (take_ofW HT_.out HW_.out (by kernel_rfl)) (fun _ _ _ h => h) (Or.inl ⟨by rfl, ?_⟩) hHeld ?_ ?_
                  rotate_left
                  ·rintro w' ⟨s0,s1,s2,s3⟩
                   go_simp
                   with_reducible rfl
                  rotate_left
                  ·simp only [Act.put,sA_,s0_,s1_,i64_w,i32_w]
                   rfl
                  refine one_ (i:=4) (N:=some 60) #[true,true,true,true,true,false,false,false,false,false,false,false,false,false,false,false,false,false,false,false,false,false,false,false,false,false,false,false,false,false,false,false] rfl rfl (one_of HT_.out (by kernel_rfl)) (by decide) (fun K hK => ?_);refine goes_ Try.func81 (by kernel_rfl) rfl #[.int .i64 (rd (rd_L1 l0_1 x4_2) x6_4), .int .i64 1, .int .i64 99] (by rfl) rfl rfl (by (try simp only [List.map_toArray,List.map_cons,List.map_nil]);first | done | rfl | (simp only [List.length_drop,List.length_take];rfl)) ?_
                  with_reducible refine (spec_l1In.calls (rd (rd_L1 l0_1 x4_2) x6_4) 1 99 true _ A21.out).mono ?_
                  rintro e w' ⟨rfl,⟨nd,rfl⟩⟩;refine ⟨_,rfl, ?_⟩;refine hK.out _ _ ⟨(blk_cell BK176.out 0).trans rfl,(blk_cell BK176.out 1).trans rfl,((HB.out.cell (World.block_lt_of_cell? w _ hw182_0)).trans hw182_0),((HB.out.cell (World.block_lt_of_cell? w _ hw188_0)).trans hw188_0)⟩ (fun hHeld => ?_);clear hK K;refine norm_ (a':=?_) ?_ ?_
                  rotate_left
                  ·show Act.put _ (some 60) _ = _
                   simp only [Act.put,sA_,s0_,s1_,i64_w,i32_w]
                   rfl
                  refine pure_ (i:=5) (N:=some 61) (v:=?_) (a':=?_) #[true,true,true,true,true,true,false,false,false,false,false,false,false,false,false,false,false,false,false,false,false,false,false,false,false,false,false,false,false,false,false,false] rfl rfl (any_of HT_.out (by kernel_rfl)) (fun _ _ _ h => h) (Or.inl ⟨by rfl, ?_⟩) ?_ ?_
                  rotate_left
                  ·intro w'
                   go_simp
                   with_reducible rfl
                  rotate_left
                  ·simp only [Act.put,sA_,s0_,s1_,i64_w,i32_w]
                   rfl
                  refine pure_ (i:=6) (N:=some 62) (v:=?_) (a':=?_) #[true,true,true,true,true,true,true,false,false,false,false,false,false,false,false,false,false,false,false,false,false,false,false,false,false,false,false,false,false,false,false,false] rfl rfl (any_of HT_.out (by kernel_rfl)) (fun _ _ _ h => h) (Or.inl ⟨by rfl, ?_⟩) ?_ ?_
                  rotate_left
                  ·intro w'
                   go_simp
                   with_reducible rfl
                  rotate_left
                  ·simp only [Act.put,sA_,s0_,s1_,i64_w,i32_w]
                   rfl
                  refine pure_ (i:=7) (N:=some 63) (v:=?_) (a':=?_) #[true,true,true,true,true,true,true,true,false,false,false,false,false,false,false,false,false,false,false,false,false,false,false,false,false,false,false,false,false,false,false,false] rfl rfl (any_of HT_.out (by kernel_rfl)) (fun _ _ _ h => h) (Or.inl ⟨by rfl, ?_⟩) ?_ ?_
                  rotate_left
                  ·intro w'
                   go_simp
                   with_reducible rfl
                  rotate_left
                  ·simp only [Act.put,sA_,s0_,s1_,i64_w,i32_w]
                   rfl
                  refine pure_ (i:=8) (N:=some 64) (v:=?_) (a':=?_) #[true,true,true,true,true,true,true,true,true,false,false,false,false,false,false,false,false,false,false,false,false,false,false,false,false,false,false,false,false,false,false,false] rfl rfl (any_of HT_.out (by kernel_rfl)) (fun _ _ _ h => h) (Or.inl ⟨by rfl, ?_⟩) ?_ ?_
                  rotate_left
                  ·intro w'
                   go_simp
                   with_reducible rfl
                  rotate_left
                  ·simp only [Act.put,sA_,s0_,s1_,i64_w,i32_w]
                   rfl
                  refine pure_ (i:=9) (N:=some 65) (v:=?_) (a':=?_) #[true,true,true,true,true,true,true,true,true,true,false,false,false,false,false,false,false,false,false,false,false,false,false,false,false,false,false,false,false,false,false,false] rfl rfl (any_of HT_.out (by kernel_rfl)) (fun _ _ _ h => h) (Or.inl ⟨by rfl, ?_⟩) ?_ ?_
                  rotate_left
                  ·intro w'
                   go_simp
                   with_reducible rfl
                  rotate_left
                  ·simp only [Act.put,sA_,s0_,s1_,i64_w,i32_w]
                   rfl
                  refine pure_ (i:=10) (N:=some 66) (v:=undef) (a':=?_) #[true,true,true,true,true,true,true,true,true,true,true,false,false,false,false,false,false,false,false,false,false,false,false,false,false,false,false,false,false,false,false,false] rfl rfl (any_of HT_.out (by kernel_rfl)) (fun _ _ _ h => h) (Or.inr ⟨by rfl,rfl⟩) ?_ ?_
                  rotate_left
                  ·simp only [Act.put,sA_,s0_,s1_,i64_w,i32_w]
                   rfl
                  refine pure_ (i:=11) (N:=some 67) (v:=undef) (a':=?_) #[true,true,true,true,true,true,true,true,true,true,true,true,false,false,false,false,false,false,false,false,false,false,false,false,false,false,false,false,false,false,false,false] rfl rfl (any_of HT_.out (by kernel_rfl)) (fun _ _ _ h => h) (Or.inr ⟨by rfl,rfl⟩) ?_ ?_
                  rotate_left
                  ·simp only [Act.put,sA_,s0_,s1_,i64_w,i32_w]
                   rfl
                  refine pure_ (i:=12) (N:=some 68) (v:=undef) (a':=?_) #[true,true,true,true,true,true,true,true,true,true,true,true,true,false,false,false,false,false,false,false,false,false,false,false,false,false,false,false,false,false,false,false] rfl rfl (any_of HT_.out (by kernel_rfl)) (fun _ _ _ h => h) (Or.inr ⟨by rfl,rfl⟩) ?_ ?_
                  rotate_left
                  ·simp only [Act.put,sA_,s0_,s1_,i64_w,i32_w]
                   rfl
                  refine pure_ (i:=13) (N:=some 69) (v:=undef) (a':=?_) #[true,true,true,true,true,true,true,true,true,true,true,true,true,true,false,false,false,false,false,false,false,false,false,false,false,false,false,false,false,false,false,false] rfl rfl (any_of HT_.out (by kernel_rfl)) (fun _ _ _ h => h) (Or.inr ⟨by rfl,rfl⟩) ?_ ?_
                  rotate_left
                  ·simp only [Act.put,sA_,s0_,s1_,i64_w,i32_w]
                   rfl
                  refine pure_ (i:=14) (N:=some 70) (v:=undef) (a':=?_) #[true,true,true,true,true,true,true,true,true,true,true,true,true,true,true,false,false,false,false,false,false,false,false,false,false,false,false,false,false,false,false,false] rfl rfl (any_of HT_.out (by kernel_rfl)) (fun _ _ _ h => h) (Or.inr ⟨by rfl,rfl⟩) ?_ ?_
                  rotate_left
                  ·simp only [Act.put,sA_,s0_,s1_,i64_w,i32_w]
                   rfl
                  refine pure_ (i:=15) (N:=some 71) (v:=undef) (a':=?_) #[true,true,true,true,true,true,true,true,true,true,true,true,true,true,true,true,false,false,false,false,false,false,false,false,false,false,false,false,false,false,false,false] rfl rfl (any_of HT_.out (by kernel_rfl)) (fun _ _ _ h => h) (Or.inr ⟨by rfl,rfl⟩) ?_ ?_
                  rotate_left
                  ·simp only [Act.put,sA_,s0_,s1_,i64_w,i32_w]
                   rfl
                  refine pure_ (i:=16) (N:=some 72) (v:=undef) (a':=?_) #[true,true,true,true,true,true,true,true,true,true,true,true,true,true,true,true,true,false,false,false,false,false,false,false,false,false,false,false,false,false,false,false] rfl rfl (any_of HT_.out (by kernel_rfl)) (fun _ _ _ h => h) (Or.inr ⟨by rfl,rfl⟩) ?_ ?_
                  rotate_left
                  ·simp only [Act.put,sA_,s0_,s1_,i64_w,i32_w]
                   rfl
                  refine pure_ (i:=17) (N:=some 73) (v:=undef) (a':=?_) #[true,true,true,true,true,true,true,true,true,true,true,true,true,true,true,true,true,true,false,false,false,false,false,false,false,false,false,false,false,false,false,false] rfl rfl (any_of HT_.out (by kernel_rfl)) (fun _ _ _ h => h) (Or.inr ⟨by rfl,rfl⟩) ?_ ?_
                  rotate_left
                  ·simp only [Act.put,sA_,s0_,s1_,i64_w,i32_w]
                   rfl
                  refine pure_ (i:=18) (N:=some 74) (v:=undef) (a':=?_) #[true,true,true,true,true,true,true,true,true,true,true,true,true,true,true,true,true,true,true,false,false,false,false,false,false,false,false,false,false,false,false,false] rfl rfl (any_of HT_.out (by kernel_rfl)) (fun _ _ _ h => h) (Or.inr ⟨by rfl,rfl⟩) ?_ ?_
                  rotate_left
                  ·simp only [Act.put,sA_,s0_,s1_,i64_w,i32_w]
                   rfl
                  refine pure_ (i:=19) (N:=some 75) (v:=undef) (a':=?_) #[true,true,true,true,true,true,true,true,true,true,true,true,true,true,true,true,true,true,true,true,false,false,false,false,false,false,false,false,false,false,false,false] rfl rfl (any_of HT_.out (by kernel_rfl)) (fun _ _ _ h => h) (Or.inr ⟨by rfl,rfl⟩) ?_ ?_
                  rotate_left
                  ·simp only [Act.put,sA_,s0_,s1_,i64_w,i32_w]
                   rfl
                  refine pure_ (i:=20) (N:=some 76) (v:=?_) (a':=?_) #[true,true,true,true,true,true,true,true,true,true,true,true,true,true,true,true,true,true,true,true,true,false,false,false,false,false,false,false,false,false,false,false] rfl rfl (any_of HT_.out (by kernel_rfl)) (fun _ _ _ h => h) (Or.inl ⟨by rfl, ?_⟩) ?_ ?_
                  rotate_left
                  ·intro w'
                   go_simp
                   with_reducible rfl
                  rotate_left
                  ·simp only [Act.put,sA_,s0_,s1_,i64_w,i32_w]
                   rfl
                  refine pure_ (i:=21) (N:=some 77) (v:=?_) (a':=?_) #[true,true,true,true,true,true,true,true,true,true,true,true,true,true,true,true,true,true,true,true,true,true,false,false,false,false,false,false,false,false,false,false] rfl rfl (any_of HT_.out (by kernel_rfl)) (fun _ _ _ h => h) (Or.inl ⟨by rfl, ?_⟩) ?_ ?_
                  rotate_left
                  ·intro w'
                   go_simp
                   with_reducible rfl
                  rotate_left
                  ·simp only [Act.put,sA_,s0_,s1_,i64_w,i32_w]
                   rfl
                  refine pure_ (i:=22) (N:=some 78) (v:=?_) (a':=?_) #[true,true,true,true,true,true,true,true,true,true,true,true,true,true,true,true,true,true,true,true,true,true,true,false,false,false,false,false,false,false,false,false] rfl rfl (any_of HT_.out (by kernel_rfl)) (fun _ _ _ h => h) (Or.inl ⟨by rfl, ?_⟩) ?_ ?_
                  rotate_left
                  ·intro w'
                   go_simp
                   with_reducible rfl
                  rotate_left
                  ·simp only [Act.put,sA_,s0_,s1_,i64_w,i32_w]
                   rfl
                  refine pure_ (i:=24) (N:=some 80) (v:=?_) (a':=?_) #[true,true,true,true,true,true,true,true,true,true,true,true,true,true,true,true,true,true,true,true,true,true,true,false,true,false,false,false,false,false,false,false] rfl rfl (any_of HT_.out (by kernel_rfl)) (fun _ _ _ h => h) (Or.inl ⟨by rfl, ?_⟩) ?_ ?_
                  rotate_left
                  ·intro w'
                   go_simp
                   with_reducible rfl
                  rotate_left
                  ·simp only [Act.put,sA_,s0_,s1_,i64_w,i32_w]
                   rfl
                  refine pure_ (i:=25) (N:=some 81) (v:=?_) (a':=?_) #[true,true,true,true,true,true,true,true,true,true,true,true,true,true,true,true,true,true,true,true,true,true,true,false,true,true,false,false,false,false,false,false] rfl rfl (any_of HT_.out (by kernel_rfl)) (fun _ _ _ h => h) (Or.inl ⟨by rfl, ?_⟩) ?_ ?_
                  rotate_left
                  ·intro w'
                   go_simp
                   with_reducible rfl
                  rotate_left
                  ·simp only [Act.put,sA_,s0_,s1_,i64_w,i32_w]
                   rfl
                  refine pure_ (i:=26) (N:=some 82) (v:=?_) (a':=?_) #[true,true,true,true,true,true,true,true,true,true,true,true,true,true,true,true,true,true,true,true,true,true,true,false,true,true,true,false,false,false,false,false] rfl rfl (any_of HT_.out (by kernel_rfl)) (fun _ _ _ h => h) (Or.inl ⟨by rfl, ?_⟩) ?_ ?_
                  rotate_left
                  ·intro w'
                   go_simp
                   with_reducible rfl
                  rotate_left
                  ·simp only [Act.put,sA_,s0_,s1_,i64_w,i32_w]
                   rfl
                  refine pure_ (i:=29) (N:=some 85) (v:=?_) (a':=?_) #[true,true,true,true,true,true,true,true,true,true,true,true,true,true,true,true,true,true,true,true,true,true,true,false,true,true,true,false,false,true,false,false] rfl rfl (any_of HT_.out (by kernel_rfl)) (fun _ _ _ h => h) (Or.inl ⟨by rfl, ?_⟩) ?_ ?_
                  rotate_left
                  ·intro w'
                   go_simp
                   with_reducible rfl
                  rotate_left
                  ·simp only [Act.put,sA_,s0_,s1_,i64_w,i32_w]
                   rfl
                  refine take_ (i:=23) (N:=some 79) (v:=?_) (a':=?_) #[true,true,true,true,true,true,true,true,true,true,true,true,true,true,true,true,true,true,true,true,true,true,true,true,true,true,true,false,false,true,false,false] rfl rfl (take_ofW HT_.out HW_.out (by kernel_rfl)) (fun _ _ _ h => h) (Or.inl ⟨by rfl, ?_⟩) hHeld ?_ ?_
                  rotate_left
                  ·rintro w' ⟨s0,s1,s2,s3⟩
                   go_simp
                   with_reducible rfl
                  rotate_left
                  ·simp only [Act.put,sA_,s0_,s1_,i64_w,i32_w]
                   rfl
                  refine take_ (i:=27) (N:=some 83) (v:=?_) (a':=?_) #[true,true,true,true,true,true,true,true,true,true,true,true,true,true,true,true,true,true,true,true,true,true,true,true,true,true,true,true,false,true,false,false] rfl rfl (take_ofW HT_.out HW_.out (by kernel_rfl)) (fun _ _ _ h => h) (Or.inl ⟨by rfl, ?_⟩) hHeld ?_ ?_
                  rotate_left
                  ·rintro w' ⟨s0,s1,s2,s3⟩
                   go_simp
                   with_reducible rfl
                  rotate_left
                  ·simp only [Act.put,sA_,s0_,s1_,i64_w,i32_w]
                   rfl
                  refine one_ (i:=28) (N:=some 84) #[true,true,true,true,true,true,true,true,true,true,true,true,true,true,true,true,true,true,true,true,true,true,true,true,true,true,true,true,true,true,false,false] rfl rfl (one_of HT_.out (by kernel_rfl)) (by decide) (fun K hK => ?_);refine goes_ Try.func48 (by kernel_rfl) rfl #[.agg #[.slice A0_0 l0_0.length c0_0, .slice (some ad178) l0_1.length c0_1], .int .i64 (rd (rd_L1 l0_1 x4_2) x6_4)] (by rfl) rfl rfl (by (try simp only [List.map_toArray,List.map_cons,List.map_nil]);first | done | rfl | (simp only [List.length_drop,List.length_take];rfl)) ?_
                  with_reducible refine (spec_l18Find.calls k4 _ _ l0_0 _ _ l0_1 (rd (rd_L1 l0_1 x4_2) x6_4) t189 _ ?side1 ?side2 ?side3 ?side4 A35.out).mono ?_
                  (case side1 => repeat (first | exact (Kd.C_below HR0_0.out (by repeat (first | (with_reducible first | exact HB.out | apply below_alloc | apply pw_below_drewN | apply below_drew1 | refine below_set ?_ GE176.out) | exact HB.out))) | (with_reducible refine Kd.C_alloc ?_ _) | (with_reducible refine Kd.C_drewN ?_ _) | (with_reducible refine Kd.C_drew ?_)))
                  (case side2 => exact HC0_0.out)
                  (case side3 => repeat (first | exact (Kd.C_below HR0_1.out (by repeat (first | (with_reducible first | exact HB.out | apply below_alloc | apply pw_below_drewN | apply below_drew1 | refine below_set ?_ GE176.out) | exact HB.out))) | (with_reducible refine Kd.C_alloc ?_ _) | (with_reducible refine Kd.C_drewN ?_ _) | (with_reducible refine Kd.C_drew ?_)))
                  (case side4 => exact HC0_1.out)
                  rintro e w38 ⟨rfl,hb⟩;refine ⟨_,rfl, ?_⟩;have n0_:=am_ (blk_below (g:=gb176) (o := .cells #[.slice A0_0 l0_0.length c0_0, .slice (some ad178) l0_1.length c0_1] 27 (0,0)) (by (with_reducible repeat (first | refine blk_drewN ?_ _ | refine blk_drew ?_ | refine blk_alloc ?_ _));exact BK176.out) hb);have n1_:=am_ (below_step (by repeat (first | (with_reducible first | exact HB.out | apply below_alloc | apply pw_below_drewN | apply below_drew1 | refine below_set ?_ GE176.out) | exact HB.out)) hb);clear BK176;clear HB;have BK176:=n0_;have HB:=n1_;clear n0_ n1_;(try clear hb);(try clear hb2);(try clear hk);(try clear hi);refine hK.out _ _ ⟨(blk_cell BK176.out 0).trans rfl,(blk_cell BK176.out 1).trans rfl,((HB.out.cell (World.block_lt_of_cell? w _ hw182_0)).trans hw182_0),((HB.out.cell (World.block_lt_of_cell? w _ hw188_0)).trans hw188_0)⟩ (fun hHeld => ?_);clear hK K;refine norm_ (a':=?_) ?_ ?_
                  rotate_left
                  ·show Act.put _ (some 84) _ = _
                   simp only [Act.put,sA_,s0_,s1_,i64_w,i32_w]
                   rfl
                  refine pure_ (i:=30) (N:=some 86) (v:=?_) (a':=?_) #[true,true,true,true,true,true,true,true,true,true,true,true,true,true,true,true,true,true,true,true,true,true,true,true,true,true,true,true,true,true,true,false] rfl rfl (any_of HT_.out (by kernel_rfl)) (fun _ _ _ h => h) (Or.inl ⟨by rfl, ?_⟩) ?_ ?_
                  rotate_left
                  ·intro w'
                   go_simp
                   with_reducible rfl
                  rotate_left
                  ·simp only [Act.put,sA_,s0_,s1_,i64_w,i32_w]
                   rfl
                  refine pure_ (i:=31) (N:=some 87) (v:=?_) (a':=?_) #[true,true,true,true,true,true,true,true,true,true,true,true,true,true,true,true,true,true,true,true,true,true,true,true,true,true,true,true,true,true,true,true] rfl rfl (any_of HT_.out (by kernel_rfl)) (fun _ _ _ h => h) (Or.inl ⟨by rfl, ?_⟩) ?_ ?_
                  rotate_left
                  ·intro w'
                   go_simp
                   with_reducible rfl
                  rotate_left
                  ·simp only [Act.put,sA_,s0_,s1_,i64_w,i32_w]
                   rfl
                  refine done_ (done_of HT_.out (by kernel_rfl)) ?_
                  try go_wp2
                  go_roundg k4
                  case measure => have:=HJ1.out;have:=HK2.out;have:=HJ10.out;have:=HK4.out;omega
                  case rel => exact ⟨(wrap64 (x6_4 + 1)),(by first | rfl | (simp;done) | (simp [*];done)),H',⟨by have:=HJ1.out;have:=HK2.out;have:=HJ10.out;have:=HK4.out;omega⟩,⟨by (with_reducible repeat (first | refine blk_drewN ?_ _ | refine blk_drew ?_ | refine blk_alloc ?_ _));exact BK176.out⟩,⟨by repeat (first | (with_reducible first | exact HB.out | apply below_alloc | apply pw_below_drewN | apply below_drew1 | refine below_set ?_ GE176.out) | exact HB.out)⟩⟩
                 ·rw [if_neg c36] at H;have c36b0 : (t189 == x4_2) = false:=beq_eq_false_iff_ne.mpr c36;have c36b1 : (t189 != x4_2) = true:=bne_iff_ne.mpr c36;obtain rfl:=Option.some.inj H
                  try go_wp2
                  have n0_:=am_ (blk_drew BK176.out);have n1_:=am_ (below_drew1 HB.out);clear BK176;clear HB;have BK176:=n0_;have HB:=n1_;clear n0_ n1_;have p182 : 0 ≤ (x6_4 : Int):=of_decide_eq_true (by first | (with_reducible assumption) | assumption);have q182 : x6_4 < ((rd_L1 l0_1 x4_2).length : Int):=of_decide_eq_true (by first | (with_reducible assumption) | assumption);obtain ⟨ad182,e182,hx182_0⟩ := Kd.at_int HR178_0.out x6_4 p182 q182;have hw182_0:=hx182_0;cases e182;replace hx182_0:=(HB.out.cell (World.block_lt_of_cell? w _ hx182_0)).trans hx182_0;replace p182:=eq_true p182;replace q182:=eq_true q182;have p188 : 0 ≤ (x6_4 : Int):=of_decide_eq_true (by first | (with_reducible assumption) | assumption);have q188 : x6_4 < ((rd_L1 l0_1 x4_2).length : Int):=of_decide_eq_true (by first | (with_reducible assumption) | assumption);obtain ⟨ad188,e188,hx188_0⟩ := Kd.at_int HR178_0.out x6_4 p188 q188;have hw188_0:=hx188_0;obtain rfl : ad182 = ad188:=(by injection e188);replace hx188_0:=(HB.out.cell (World.block_lt_of_cell? w _ hx188_0)).trans hx188_0;replace p188:=eq_true p188;replace q188:=eq_true q188
                  refine start_ (n:=32) (S:=fun w' => w'.cell? ⟨gb176,0,none⟩ = some (.slice A0_0 l0_0.length c0_0) ∧ w'.cell? ⟨gb176,1,none⟩ = some (.slice (some ad178) l0_1.length c0_1) ∧ w'.cell? (ad182.add (x6_4).toNat) = some (.int .i64 (rd (rd_L1 l0_1 x4_2) x6_4)) ∧ w'.cell? (ad182.add (x6_4).toNat) = some (.int .i64 (rd (rd_L1 l0_1 x4_2) x6_4))) (ds := []) #[false,false,false,false,false,false,false,false,false,false,false,false,false,false,false,false,false,false,false,false,false,false,false,false,false,false,false,false,false,false,false,false] (by kernel_rfl) rfl rfl ⟨(blk_cell BK176.out 0).trans rfl,(blk_cell BK176.out 1).trans rfl,((HB.out.cell (World.block_lt_of_cell? w _ hw182_0)).trans hw182_0),((HB.out.cell (World.block_lt_of_cell? w _ hw188_0)).trans hw188_0)⟩ (fun hHeld => ?_);refine with_tabW spec_l18Good.tab13 spec_l18Good.bits13 (fun HT_ HW_ => ?_)
                  generalize wr.drew = w39 at BK176 HB hx182_0 hx188_0 hHeld ⊢;refine pure_ (i:=0) (N:=some 56) (v:=?_) (a':=?_) #[true,false,false,false,false,false,false,false,false,false,false,false,false,false,false,false,false,false,false,false,false,false,false,false,false,false,false,false,false,false,false,false] rfl rfl (any_of HT_.out (by kernel_rfl)) (fun _ _ _ h => h) (Or.inl ⟨by rfl, ?_⟩) ?_ ?_
                  rotate_left
                  ·intro w'
                   go_simp
                   with_reducible rfl
                  rotate_left
                  ·simp only [Act.put,sA_,s0_,s1_,i64_w,i32_w]
                   rfl
                  refine pure_ (i:=1) (N:=some 57) (v:=?_) (a':=?_) #[true,true,false,false,false,false,false,false,false,false,false,false,false,false,false,false,false,false,false,false,false,false,false,false,false,false,false,false,false,false,false,false] rfl rfl (any_of HT_.out (by kernel_rfl)) (fun _ _ _ h => h) (Or.inl ⟨by rfl, ?_⟩) ?_ ?_
                  rotate_left
                  ·intro w'
                   go_simp
                   with_reducible rfl
                  rotate_left
                  ·simp only [Act.put,sA_,s0_,s1_,i64_w,i32_w]
                   rfl
                  refine pure_ (i:=2) (N:=some 58) (v:=?_) (a':=?_) #[true,true,true,false,false,false,false,false,false,false,false,false,false,false,false,false,false,false,false,false,false,false,false,false,false,false,false,false,false,false,false,false] rfl rfl (any_of HT_.out (by kernel_rfl)) (fun _ _ _ h => h) (Or.inl ⟨by rfl, ?_⟩) ?_ ?_
                  rotate_left
                  ·intro w'
                   go_simp
                   with_reducible rfl
                  rotate_left
                  ·simp only [Act.put,sA_,s0_,s1_,i64_w,i32_w]
                   rfl
                  refine take_ (i:=3) (N:=some 59) (v:=?_) (a':=?_) #[true,true,true,true,false,false,false,false,false,false,false,false,false,false,false,false,false,false,false,false,false,false,false,false,false,false,false,false,false,false,false,false] rfl rfl (take_ofW HT_.out HW_.out (by kernel_rfl)) (fun _ _ _ h => h) (Or.inl ⟨by rfl, ?_⟩) hHeld ?_ ?_
                  rotate_left
                  ·rintro w' ⟨s0,s1,s2,s3⟩
                   go_simp
                   with_reducible rfl
                  rotate_left
                  ·simp only [Act.put,sA_,s0_,s1_,i64_w,i32_w]
                   rfl
                  refine one_ (i:=4) (N:=some 60) #[true,true,true,true,true,false,false,false,false,false,false,false,false,false,false,false,false,false,false,false,false,false,false,false,false,false,false,false,false,false,false,false] rfl rfl (one_of HT_.out (by kernel_rfl)) (by decide) (fun K hK => ?_);refine goes_ Try.func81 (by kernel_rfl) rfl #[.int .i64 (rd (rd_L1 l0_1 x4_2) x6_4), .int .i64 1, .int .i64 99] (by rfl) rfl rfl (by (try simp only [List.map_toArray,List.map_cons,List.map_nil]);first | done | rfl | (simp only [List.length_drop,List.length_take];rfl)) ?_
                  with_reducible refine (spec_l1In.calls (rd (rd_L1 l0_1 x4_2) x6_4) 1 99 true _ A21.out).mono ?_
                  rintro e w' ⟨rfl,⟨nd,rfl⟩⟩;refine ⟨_,rfl, ?_⟩;refine hK.out _ _ ⟨(blk_cell BK176.out 0).trans rfl,(blk_cell BK176.out 1).trans rfl,((HB.out.cell (World.block_lt_of_cell? w _ hw182_0)).trans hw182_0),((HB.out.cell (World.block_lt_of_cell? w _ hw188_0)).trans hw188_0)⟩ (fun hHeld => ?_);clear hK K;refine norm_ (a':=?_) ?_ ?_
                  rotate_left
                  ·show Act.put _ (some 60) _ = _
                   simp only [Act.put,sA_,s0_,s1_,i64_w,i32_w]
                   rfl
                  refine pure_ (i:=5) (N:=some 61) (v:=?_) (a':=?_) #[true,true,true,true,true,true,false,false,false,false,false,false,false,false,false,false,false,false,false,false,false,false,false,false,false,false,false,false,false,false,false,false] rfl rfl (any_of HT_.out (by kernel_rfl)) (fun _ _ _ h => h) (Or.inl ⟨by rfl, ?_⟩) ?_ ?_
                  rotate_left
                  ·intro w'
                   go_simp
                   with_reducible rfl
                  rotate_left
                  ·simp only [Act.put,sA_,s0_,s1_,i64_w,i32_w]
                   rfl
                  refine pure_ (i:=6) (N:=some 62) (v:=?_) (a':=?_) #[true,true,true,true,true,true,true,false,false,false,false,false,false,false,false,false,false,false,false,false,false,false,false,false,false,false,false,false,false,false,false,false] rfl rfl (any_of HT_.out (by kernel_rfl)) (fun _ _ _ h => h) (Or.inl ⟨by rfl, ?_⟩) ?_ ?_
                  rotate_left
                  ·intro w'
                   go_simp
                   with_reducible rfl
                  rotate_left
                  ·simp only [Act.put,sA_,s0_,s1_,i64_w,i32_w]
                   rfl
                  refine pure_ (i:=7) (N:=some 63) (v:=?_) (a':=?_) #[true,true,true,true,true,true,true,true,false,false,false,false,false,false,false,false,false,false,false,false,false,false,false,false,false,false,false,false,false,false,false,false] rfl rfl (any_of HT_.out (by kernel_rfl)) (fun _ _ _ h => h) (Or.inl ⟨by rfl, ?_⟩) ?_ ?_
                  rotate_left
                  ·intro w'
                   go_simp
                   with_reducible rfl
                  rotate_left
                  ·simp only [Act.put,sA_,s0_,s1_,i64_w,i32_w]
                   rfl
                  refine pure_ (i:=8) (N:=some 64) (v:=?_) (a':=?_) #[true,true,true,true,true,true,true,true,true,false,false,false,false,false,false,false,false,false,false,false,false,false,false,false,false,false,false,false,false,false,false,false] rfl rfl (any_of HT_.out (by kernel_rfl)) (fun _ _ _ h => h) (Or.inl ⟨by rfl, ?_⟩) ?_ ?_
                  rotate_left
                  ·intro w'
                   go_simp
                   with_reducible rfl
                  rotate_left
                  ·simp only [Act.put,sA_,s0_,s1_,i64_w,i32_w]
                   rfl
                  refine pure_ (i:=9) (N:=some 65) (v:=?_) (a':=?_) #[true,true,true,true,true,true,true,true,true,true,false,false,false,false,false,false,false,false,false,false,false,false,false,false,false,false,false,false,false,false,false,false] rfl rfl (any_of HT_.out (by kernel_rfl)) (fun _ _ _ h => h) (Or.inl ⟨by rfl, ?_⟩) ?_ ?_
                  rotate_left
                  ·intro w'
                   go_simp
                   with_reducible rfl
                  rotate_left
                  ·simp only [Act.put,sA_,s0_,s1_,i64_w,i32_w]
                   rfl
                  refine pure_ (i:=10) (N:=some 66) (v:=undef) (a':=?_) #[true,true,true,true,true,true,true,true,true,true,true,false,false,false,false,false,false,false,false,false,false,false,false,false,false,false,false,false,false,false,false,false] rfl rfl (any_of HT_.out (by kernel_rfl)) (fun _ _ _ h => h) (Or.inr ⟨by rfl,rfl⟩) ?_ ?_
                  rotate_left
                  ·simp only [Act.put,sA_,s0_,s1_,i64_w,i32_w]
                   rfl
                  refine pure_ (i:=11) (N:=some 67) (v:=undef) (a':=?_) #[true,true,true,true,true,true,true,true,true,true,true,true,false,false,false,false,false,false,false,false,false,false,false,false,false,false,false,false,false,false,false,false] rfl rfl (any_of HT_.out (by kernel_rfl)) (fun _ _ _ h => h) (Or.inr ⟨by rfl,rfl⟩) ?_ ?_
                  rotate_left
                  ·simp only [Act.put,sA_,s0_,s1_,i64_w,i32_w]
                   rfl
                  refine pure_ (i:=12) (N:=some 68) (v:=undef) (a':=?_) #[true,true,true,true,true,true,true,true,true,true,true,true,true,false,false,false,false,false,false,false,false,false,false,false,false,false,false,false,false,false,false,false] rfl rfl (any_of HT_.out (by kernel_rfl)) (fun _ _ _ h => h) (Or.inr ⟨by rfl,rfl⟩) ?_ ?_
                  rotate_left
                  ·simp only [Act.put,sA_,s0_,s1_,i64_w,i32_w]
                   rfl
                  refine pure_ (i:=13) (N:=some 69) (v:=undef) (a':=?_) #[true,true,true,true,true,true,true,true,true,true,true,true,true,true,false,false,false,false,false,false,false,false,false,false,false,false,false,false,false,false,false,false] rfl rfl (any_of HT_.out (by kernel_rfl)) (fun _ _ _ h => h) (Or.inr ⟨by rfl,rfl⟩) ?_ ?_
                  rotate_left
                  ·simp only [Act.put,sA_,s0_,s1_,i64_w,i32_w]
                   rfl
                  refine pure_ (i:=14) (N:=some 70) (v:=undef) (a':=?_) #[true,true,true,true,true,true,true,true,true,true,true,true,true,true,true,false,false,false,false,false,false,false,false,false,false,false,false,false,false,false,false,false] rfl rfl (any_of HT_.out (by kernel_rfl)) (fun _ _ _ h => h) (Or.inr ⟨by rfl,rfl⟩) ?_ ?_
                  rotate_left
                  ·simp only [Act.put,sA_,s0_,s1_,i64_w,i32_w]
                   rfl
                  refine pure_ (i:=15) (N:=some 71) (v:=undef) (a':=?_) #[true,true,true,true,true,true,true,true,true,true,true,true,true,true,true,true,false,false,false,false,false,false,false,false,false,false,false,false,false,false,false,false] rfl rfl (any_of HT_.out (by kernel_rfl)) (fun _ _ _ h => h) (Or.inr ⟨by rfl,rfl⟩) ?_ ?_
                  rotate_left
                  ·simp only [Act.put,sA_,s0_,s1_,i64_w,i32_w]
                   rfl
                  refine pure_ (i:=16) (N:=some 72) (v:=undef) (a':=?_) #[true,true,true,true,true,true,true,true,true,true,true,true,true,true,true,true,true,false,false,false,false,false,false,false,false,false,false,false,false,false,false,false] rfl rfl (any_of HT_.out (by kernel_rfl)) (fun _ _ _ h => h) (Or.inr ⟨by rfl,rfl⟩) ?_ ?_
                  rotate_left
                  ·simp only [Act.put,sA_,s0_,s1_,i64_w,i32_w]
                   rfl
                  refine pure_ (i:=17) (N:=some 73) (v:=undef) (a':=?_) #[true,true,true,true,true,true,true,true,true,true,true,true,true,true,true,true,true,true,false,false,false,false,false,false,false,false,false,false,false,false,false,false] rfl rfl (any_of HT_.out (by kernel_rfl)) (fun _ _ _ h => h) (Or.inr ⟨by rfl,rfl⟩) ?_ ?_
                  rotate_left
                  ·simp only [Act.put,sA_,s0_,s1_,i64_w,i32_w]
                   rfl
                  refine pure_ (i:=18) (N:=some 74) (v:=undef) (a':=?_) #[true,true,true,true,true,true,true,true,true,true,true,true,true,true,true,true,true,true,true,false,false,false,false,false,false,false,false,false,false,false,false,false] rfl rfl (any_of HT_.out (by kernel_rfl)) (fun _ _ _ h => h) (Or.inr ⟨by rfl,rfl⟩) ?_ ?_
                  rotate_left
                  ·simp only [Act.put,sA_,s0_,s1_,i64_w,i32_w]
                   rfl
                  refine pure_ (i:=19) (N:=some 75) (v:=undef) (a':=?_) #[true,true,true,true,true,true,true,true,true,true,true,true,true,true,true,true,true,true,true,true,false,false,false,false,false,false,false,false,false,false,false,false] rfl rfl (any_of HT_.out (by kernel_rfl)) (fun _ _ _ h => h) (Or.inr ⟨by rfl,rfl⟩) ?_ ?_
                  rotate_left
                  ·simp only [Act.put,sA_,s0_,s1_,i64_w,i32_w]
                   rfl
                  refine pure_ (i:=20) (N:=some 76) (v:=?_) (a':=?_) #[true,true,true,true,true,true,true,true,true,true,true,true,true,true,true,true,true,true,true,true,true,false,false,false,false,false,false,false,false,false,false,false] rfl rfl (any_of HT_.out (by kernel_rfl)) (fun _ _ _ h => h) (Or.inl ⟨by rfl, ?_⟩) ?_ ?_
                  rotate_left
                  ·intro w'
                   go_simp
                   with_reducible rfl
                  rotate_left
                  ·simp only [Act.put,sA_,s0_,s1_,i64_w,i32_w]
                   rfl
                  refine pure_ (i:=21) (N:=some 77) (v:=?_) (a':=?_) #[true,true,true,true,true,true,true,true,true,true,true,true,true,true,true,true,true,true,true,true,true,true,false,false,false,false,false,false,false,false,false,false] rfl rfl (any_of HT_.out (by kernel_rfl)) (fun _ _ _ h => h) (Or.inl ⟨by rfl, ?_⟩) ?_ ?_
                  rotate_left
                  ·intro w'
                   go_simp
                   with_reducible rfl
                  rotate_left
                  ·simp only [Act.put,sA_,s0_,s1_,i64_w,i32_w]
                   rfl
                  refine pure_ (i:=22) (N:=some 78) (v:=?_) (a':=?_) #[true,true,true,true,true,true,true,true,true,true,true,true,true,true,true,true,true,true,true,true,true,true,true,false,false,false,false,false,false,false,false,false] rfl rfl (any_of HT_.out (by kernel_rfl)) (fun _ _ _ h => h) (Or.inl ⟨by rfl, ?_⟩) ?_ ?_
                  rotate_left
                  ·intro w'
                   go_simp
                   with_reducible rfl
                  rotate_left
                  ·simp only [Act.put,sA_,s0_,s1_,i64_w,i32_w]
                   rfl
                  refine pure_ (i:=24) (N:=some 80) (v:=?_) (a':=?_) #[true,true,true,true,true,true,true,true,true,true,true,true,true,true,true,true,true,true,true,true,true,true,true,false,true,false,false,false,false,false,false,false] rfl rfl (any_of HT_.out (by kernel_rfl)) (fun _ _ _ h => h) (Or.inl ⟨by rfl, ?_⟩) ?_ ?_
                  rotate_left
                  ·intro w'
                   go_simp
                   with_reducible rfl
                  rotate_left
                  ·simp only [Act.put,sA_,s0_,s1_,i64_w,i32_w]
                   rfl
                  refine pure_ (i:=25) (N:=some 81) (v:=?_) (a':=?_) #[true,true,true,true,true,true,true,true,true,true,true,true,true,true,true,true,true,true,true,true,true,true,true,false,true,true,false,false,false,false,false,false] rfl rfl (any_of HT_.out (by kernel_rfl)) (fun _ _ _ h => h) (Or.inl ⟨by rfl, ?_⟩) ?_ ?_
                  rotate_left
                  ·intro w'
                   go_simp
                   with_reducible rfl
                  rotate_left
                  ·simp only [Act.put,sA_,s0_,s1_,i64_w,i32_w]
                   rfl
                  refine pure_ (i:=26) (N:=some 82) (v:=?_) (a':=?_) #[true,true,true,true,true,true,true,true,true,true,true,true,true,true,true,true,true,true,true,true,true,true,true,false,true,true,true,false,false,false,false,false] rfl rfl (any_of HT_.out (by kernel_rfl)) (fun _ _ _ h => h) (Or.inl ⟨by rfl, ?_⟩) ?_ ?_
                  rotate_left
                  ·intro w'
                   go_simp
                   with_reducible rfl
                  rotate_left
                  ·simp only [Act.put,sA_,s0_,s1_,i64_w,i32_w]
                   rfl
                  refine pure_ (i:=29) (N:=some 85) (v:=?_) (a':=?_) #[true,true,true,true,true,true,true,true,true,true,true,true,true,true,true,true,true,true,true,true,true,true,true,false,true,true,true,false,false,true,false,false] rfl rfl (any_of HT_.out (by kernel_rfl)) (fun _ _ _ h => h) (Or.inl ⟨by rfl, ?_⟩) ?_ ?_
                  rotate_left
                  ·intro w'
                   go_simp
                   with_reducible rfl
                  rotate_left
                  ·simp only [Act.put,sA_,s0_,s1_,i64_w,i32_w]
                   rfl
                  refine take_ (i:=23) (N:=some 79) (v:=?_) (a':=?_) #[true,true,true,true,true,true,true,true,true,true,true,true,true,true,true,true,true,true,true,true,true,true,true,true,true,true,true,false,false,true,false,false] rfl rfl (take_ofW HT_.out HW_.out (by kernel_rfl)) (fun _ _ _ h => h) (Or.inl ⟨by rfl, ?_⟩) hHeld ?_ ?_
                  rotate_left
                  ·rintro w' ⟨s0,s1,s2,s3⟩
                   go_simp
                   with_reducible rfl
                  rotate_left
                  ·simp only [Act.put,sA_,s0_,s1_,i64_w,i32_w]
                   rfl
                  refine take_ (i:=27) (N:=some 83) (v:=?_) (a':=?_) #[true,true,true,true,true,true,true,true,true,true,true,true,true,true,true,true,true,true,true,true,true,true,true,true,true,true,true,true,false,true,false,false] rfl rfl (take_ofW HT_.out HW_.out (by kernel_rfl)) (fun _ _ _ h => h) (Or.inl ⟨by rfl, ?_⟩) hHeld ?_ ?_
                  rotate_left
                  ·rintro w' ⟨s0,s1,s2,s3⟩
                   go_simp
                   with_reducible rfl
                  rotate_left
                  ·simp only [Act.put,sA_,s0_,s1_,i64_w,i32_w]
                   rfl
                  refine one_ (i:=28) (N:=some 84) #[true,true,true,true,true,true,true,true,true,true,true,true,true,true,true,true,true,true,true,true,true,true,true,true,true,true,true,true,true,true,false,false] rfl rfl (one_of HT_.out (by kernel_rfl)) (by decide) (fun K hK => ?_);refine goes_ Try.func48 (by kernel_rfl) rfl #[.agg #[.slice A0_0 l0_0.length c0_0, .slice (some ad178) l0_1.length c0_1], .int .i64 (rd (rd_L1 l0_1 x4_2) x6_4)] (by rfl) rfl rfl (by (try simp only [List.map_toArray,List.map_cons,List.map_nil]);first | done | rfl | (simp only [List.length_drop,List.length_take];rfl)) ?_
                  with_reducible refine (spec_l18Find.calls k4 _ _ l0_0 _ _ l0_1 (rd (rd_L1 l0_1 x4_2) x6_4) t189 _ ?side1 ?side2 ?side3 ?side4 A35.out).mono ?_
                  (case side1 => repeat (first | exact (Kd.C_below HR0_0.out (by repeat (first | (with_reducible first | exact HB.out | apply below_alloc | apply pw_below_drewN | apply below_drew1 | refine below_set ?_ GE176.out) | exact HB.out))) | (with_reducible refine Kd.C_alloc ?_ _) | (with_reducible refine Kd.C_drewN ?_ _) | (with_reducible refine Kd.C_drew ?_)))
                  (case side2 => exact HC0_0.out)
                  (case side3 => repeat (first | exact (Kd.C_below HR0_1.out (by repeat (first | (with_reducible first | exact HB.out | apply below_alloc | apply pw_below_drewN | apply below_drew1 | refine below_set ?_ GE176.out) | exact HB.out))) | (with_reducible refine Kd.C_alloc ?_ _) | (with_reducible refine Kd.C_drewN ?_ _) | (with_reducible refine Kd.C_drew ?_)))
                  (case side4 => exact HC0_1.out)
                  rintro e w40 ⟨rfl,hb⟩;refine ⟨_,rfl, ?_⟩;have n0_:=am_ (blk_below (g:=gb176) (o := .cells #[.slice A0_0 l0_0.length c0_0, .slice (some ad178) l0_1.length c0_1] 27 (0,0)) (by (with_reducible repeat (first | refine blk_drewN ?_ _ | refine blk_drew ?_ | refine blk_alloc ?_ _));exact BK176.out) hb);have n1_:=am_ (below_step (by repeat (first | (with_reducible first | exact HB.out | apply below_alloc | apply pw_below_drewN | apply below_drew1 | refine below_set ?_ GE176.out) | exact HB.out)) hb);clear BK176;clear HB;have BK176:=n0_;have HB:=n1_;clear n0_ n1_;(try clear hb);(try clear hb2);(try clear hk);(try clear hi);refine hK.out _ _ ⟨(blk_cell BK176.out 0).trans rfl,(blk_cell BK176.out 1).trans rfl,((HB.out.cell (World.block_lt_of_cell? w _ hw182_0)).trans hw182_0),((HB.out.cell (World.block_lt_of_cell? w _ hw188_0)).trans hw188_0)⟩ (fun hHeld => ?_);clear hK K;refine norm_ (a':=?_) ?_ ?_
                  rotate_left
                  ·show Act.put _ (some 84) _ = _
                   simp only [Act.put,sA_,s0_,s1_,i64_w,i32_w]
                   rfl
                  refine pure_ (i:=30) (N:=some 86) (v:=?_) (a':=?_) #[true,true,true,true,true,true,true,true,true,true,true,true,true,true,true,true,true,true,true,true,true,true,true,true,true,true,true,true,true,true,true,false] rfl rfl (any_of HT_.out (by kernel_rfl)) (fun _ _ _ h => h) (Or.inl ⟨by rfl, ?_⟩) ?_ ?_
                  rotate_left
                  ·intro w'
                   go_simp
                   with_reducible rfl
                  rotate_left
                  ·simp only [Act.put,sA_,s0_,s1_,i64_w,i32_w]
                   rfl
                  refine pure_ (i:=31) (N:=some 87) (v:=?_) (a':=?_) #[true,true,true,true,true,true,true,true,true,true,true,true,true,true,true,true,true,true,true,true,true,true,true,true,true,true,true,true,true,true,true,true] rfl rfl (any_of HT_.out (by kernel_rfl)) (fun _ _ _ h => h) (Or.inl ⟨by rfl, ?_⟩) ?_ ?_
                  rotate_left
                  ·intro w'
                   go_simp
                   with_reducible rfl
                  rotate_left
                  ·simp only [Act.put,sA_,s0_,s1_,i64_w,i32_w]
                   rfl
                  refine done_ (done_of HT_.out (by kernel_rfl)) ?_
                  try go_wp2
                  go_ret
                  exact ⟨by first | rfl | (simp [errW_none,errW_some] <;> rfl) | (simp [*,errW_none,errW_some] <;> rfl),by repeat (first | (with_reducible first | exact HB.out | apply below_alloc | apply pw_below_drewN | apply below_drew1 | refine below_set ?_ GE176.out) | exact HB.out)⟩
               ·replace c22:=Bool.eq_false_iff.mpr c22;subst c22
                have H1 : (some false) = some r:=by rw [if_neg (show ¬ (false = true) by decide)] at H;exact H
                clear H;have H:=H1;clear H1;obtain rfl:=Option.some.inj H
                try go_wp2
                have n0_:=am_ (blk_drew BK176.out);have n1_:=am_ (below_drew1 HB.out);clear BK176;clear HB;have BK176:=n0_;have HB:=n1_;clear n0_ n1_;have p182 : 0 ≤ (x6_4 : Int):=of_decide_eq_true (by first | (with_reducible assumption) | assumption);have q182 : x6_4 < ((rd_L1 l0_1 x4_2).length : Int):=of_decide_eq_true (by first | (with_reducible assumption) | assumption);obtain ⟨ad182,e182,hx182_0⟩ := Kd.at_int HR178_0.out x6_4 p182 q182;have hw182_0:=hx182_0;cases e182;replace hx182_0:=(HB.out.cell (World.block_lt_of_cell? w _ hx182_0)).trans hx182_0;replace p182:=eq_true p182;replace q182:=eq_true q182
                refine start_ (n:=32) (S:=fun w' => w'.cell? (ad182.add (x6_4).toNat) = some (.int .i64 (rd (rd_L1 l0_1 x4_2) x6_4))) (ds := []) #[false,false,false,false,false,false,false,false,false,false,false,false,false,false,false,false,false,false,false,false,false,false,false,false,false,false,false,false,false,false,false,false] (by kernel_rfl) rfl rfl (((HB.out.cell (World.block_lt_of_cell? w _ hw182_0)).trans hw182_0)) (fun hHeld => ?_);refine with_tabW spec_l18Good.tab13 spec_l18Good.bits13 (fun HT_ HW_ => ?_)
                generalize wr.drew = w41 at BK176 HB hx182_0 hHeld ⊢;refine pure_ (i:=0) (N:=some 56) (v:=?_) (a':=?_) #[true,false,false,false,false,false,false,false,false,false,false,false,false,false,false,false,false,false,false,false,false,false,false,false,false,false,false,false,false,false,false,false] rfl rfl (any_of HT_.out (by kernel_rfl)) (fun _ _ _ h => h) (Or.inl ⟨by rfl, ?_⟩) ?_ ?_
                rotate_left
                ·intro w'
                 go_simp
                 with_reducible rfl
                rotate_left
                ·simp only [Act.put,sA_,s0_,s1_,i64_w,i32_w]
                 rfl
                refine pure_ (i:=1) (N:=some 57) (v:=?_) (a':=?_) #[true,true,false,false,false,false,false,false,false,false,false,false,false,false,false,false,false,false,false,false,false,false,false,false,false,false,false,false,false,false,false,false] rfl rfl (any_of HT_.out (by kernel_rfl)) (fun _ _ _ h => h) (Or.inl ⟨by rfl, ?_⟩) ?_ ?_
                rotate_left
                ·intro w'
                 go_simp
                 with_reducible rfl
                rotate_left
                ·simp only [Act.put,sA_,s0_,s1_,i64_w,i32_w]
                 rfl
                refine pure_ (i:=2) (N:=some 58) (v:=?_) (a':=?_) #[true,true,true,false,false,false,false,false,false,false,false,false,false,false,false,false,false,false,false,false,false,false,false,false,false,false,false,false,false,false,false,false] rfl rfl (any_of HT_.out (by kernel_rfl)) (fun _ _ _ h => h) (Or.inl ⟨by rfl, ?_⟩) ?_ ?_
                rotate_left
                ·intro w'
                 go_simp
                 with_reducible rfl
                rotate_left
                ·simp only [Act.put,sA_,s0_,s1_,i64_w,i32_w]
                 rfl
                refine take_ (i:=3) (N:=some 59) (v:=?_) (a':=?_) #[true,true,true,true,false,false,false,false,false,false,false,false,false,false,false,false,false,false,false,false,false,false,false,false,false,false,false,false,false,false,false,false] rfl rfl (take_ofW HT_.out HW_.out (by kernel_rfl)) (fun _ _ _ h => h) (Or.inl ⟨by rfl, ?_⟩) hHeld ?_ ?_
                rotate_left
                ·intro w' s0
                 go_simp
                 with_reducible rfl
                rotate_left
                ·simp only [Act.put,sA_,s0_,s1_,i64_w,i32_w]
                 rfl
                refine one_ (i:=4) (N:=some 60) #[true,true,true,true,true,false,false,false,false,false,false,false,false,false,false,false,false,false,false,false,false,false,false,false,false,false,false,false,false,false,false,false] rfl rfl (one_of HT_.out (by kernel_rfl)) (by decide) (fun K hK => ?_);refine goes_ Try.func81 (by kernel_rfl) rfl #[.int .i64 (rd (rd_L1 l0_1 x4_2) x6_4), .int .i64 1, .int .i64 99] (by rfl) rfl rfl (by (try simp only [List.map_toArray,List.map_cons,List.map_nil]);first | done | rfl | (simp only [List.length_drop,List.length_take];rfl)) ?_
                with_reducible refine (spec_l1In.calls (rd (rd_L1 l0_1 x4_2) x6_4) 1 99 false _ A21.out).mono ?_
                rintro e w' ⟨rfl,⟨nd,rfl⟩⟩;refine ⟨_,rfl, ?_⟩;refine hK.out _ _ (((HB.out.cell (World.block_lt_of_cell? w _ hw182_0)).trans hw182_0)) (fun hHeld => ?_);clear hK K;refine norm_ (a':=?_) ?_ ?_
                rotate_left
                ·show Act.put _ (some 60) _ = _
                 simp only [Act.put,sA_,s0_,s1_,i64_w,i32_w]
                 rfl
                refine pure_ (i:=5) (N:=some 61) (v:=?_) (a':=?_) #[true,true,true,true,true,true,false,false,false,false,false,false,false,false,false,false,false,false,false,false,false,false,false,false,false,false,false,false,false,false,false,false] rfl rfl (any_of HT_.out (by kernel_rfl)) (fun _ _ _ h => h) (Or.inl ⟨by rfl, ?_⟩) ?_ ?_
                rotate_left
                ·intro w'
                 go_simp
                 with_reducible rfl
                rotate_left
                ·simp only [Act.put,sA_,s0_,s1_,i64_w,i32_w]
                 rfl
                refine pure_ (i:=6) (N:=some 62) (v:=?_) (a':=?_) #[true,true,true,true,true,true,true,false,false,false,false,false,false,false,false,false,false,false,false,false,false,false,false,false,false,false,false,false,false,false,false,false] rfl rfl (any_of HT_.out (by kernel_rfl)) (fun _ _ _ h => h) (Or.inl ⟨by rfl, ?_⟩) ?_ ?_
                rotate_left
                ·intro w'
                 go_simp
                 with_reducible rfl
                rotate_left
                ·simp only [Act.put,sA_,s0_,s1_,i64_w,i32_w]
                 rfl
                refine pure_ (i:=7) (N:=some 63) (v:=undef) (a':=?_) #[true,true,true,true,true,true,true,true,false,false,false,false,false,false,false,false,false,false,false,false,false,false,false,false,false,false,false,false,false,false,false,false] rfl rfl (any_of HT_.out (by kernel_rfl)) (fun _ _ _ h => h) (Or.inr ⟨by rfl,rfl⟩) ?_ ?_
                rotate_left
                ·simp only [Act.put,sA_,s0_,s1_,i64_w,i32_w]
                 rfl
                refine pure_ (i:=8) (N:=some 64) (v:=undef) (a':=?_) #[true,true,true,true,true,true,true,true,true,false,false,false,false,false,false,false,false,false,false,false,false,false,false,false,false,false,false,false,false,false,false,false] rfl rfl (any_of HT_.out (by kernel_rfl)) (fun _ _ _ h => h) (Or.inr ⟨by rfl,rfl⟩) ?_ ?_
                rotate_left
                ·simp only [Act.put,sA_,s0_,s1_,i64_w,i32_w]
                 rfl
                refine pure_ (i:=9) (N:=some 65) (v:=undef) (a':=?_) #[true,true,true,true,true,true,true,true,true,true,false,false,false,false,false,false,false,false,false,false,false,false,false,false,false,false,false,false,false,false,false,false] rfl rfl (any_of HT_.out (by kernel_rfl)) (fun _ _ _ h => h) (Or.inr ⟨by rfl,rfl⟩) ?_ ?_
                rotate_left
                ·simp only [Act.put,sA_,s0_,s1_,i64_w,i32_w]
                 rfl
                refine pure_ (i:=10) (N:=some 66) (v:=undef) (a':=?_) #[true,true,true,true,true,true,true,true,true,true,true,false,false,false,false,false,false,false,false,false,false,false,false,false,false,false,false,false,false,false,false,false] rfl rfl (any_of HT_.out (by kernel_rfl)) (fun _ _ _ h => h) (Or.inr ⟨by rfl,rfl⟩) ?_ ?_
                rotate_left
                ·simp only [Act.put,sA_,s0_,s1_,i64_w,i32_w]
                 rfl
                refine pure_ (i:=11) (N:=some 67) (v:=undef) (a':=?_) #[true,true,true,true,true,true,true,true,true,true,true,true,false,false,false,false,false,false,false,false,false,false,false,false,false,false,false,false,false,false,false,false] rfl rfl (any_of HT_.out (by kernel_rfl)) (fun _ _ _ h => h) (Or.inr ⟨by rfl,rfl⟩) ?_ ?_
                rotate_left
                ·simp only [Act.put,sA_,s0_,s1_,i64_w,i32_w]
                 rfl
                refine pure_ (i:=12) (N:=some 68) (v:=undef) (a':=?_) #[true,true,true,true,true,true,true,true,true,true,true,true,true,false,false,false,false,false,false,false,false,false,false,false,false,false,false,false,false,false,false,false] rfl rfl (any_of HT_.out (by kernel_rfl)) (fun _ _ _ h => h) (Or.inr ⟨by rfl,rfl⟩) ?_ ?_
                rotate_left
                ·simp only [Act.put,sA_,s0_,s1_,i64_w,i32_w]
                 rfl
                refine pure_ (i:=13) (N:=some 69) (v:=undef) (a':=?_) #[true,true,true,true,true,true,true,true,true,true,true,true,true,true,false,false,false,false,false,false,false,false,false,false,false,false,false,false,false,false,false,false] rfl rfl (any_of HT_.out (by kernel_rfl)) (fun _ _ _ h => h) (Or.inr ⟨by rfl,rfl⟩) ?_ ?_
                rotate_left
                ·simp only [Act.put,sA_,s0_,s1_,i64_w,i32_w]
                 rfl
                refine pure_ (i:=14) (N:=some 70) (v:=undef) (a':=?_) #[true,true,true,true,true,true,true,true,true,true,true,true,true,true,true,false,false,false,false,false,false,false,false,false,false,false,false,false,false,false,false,false] rfl rfl (any_of HT_.out (by kernel_rfl)) (fun _ _ _ h => h) (Or.inr ⟨by rfl,rfl⟩) ?_ ?_
                rotate_left
                ·simp only [Act.put,sA_,s0_,s1_,i64_w,i32_w]
                 rfl
                refine pure_ (i:=15) (N:=some 71) (v:=undef) (a':=?_) #[true,true,true,true,true,true,true,true,true,true,true,true,true,true,true,true,false,false,false,false,false,false,false,false,false,false,false,false,false,false,false,false] rfl rfl (any_of HT_.out (by kernel_rfl)) (fun _ _ _ h => h) (Or.inr ⟨by rfl,rfl⟩) ?_ ?_
                rotate_left
                ·simp only [Act.put,sA_,s0_,s1_,i64_w,i32_w]
                 rfl
                refine pure_ (i:=16) (N:=some 72) (v:=undef) (a':=?_) #[true,true,true,true,true,true,true,true,true,true,true,true,true,true,true,true,true,false,false,false,false,false,false,false,false,false,false,false,false,false,false,false] rfl rfl (any_of HT_.out (by kernel_rfl)) (fun _ _ _ h => h) (Or.inr ⟨by rfl,rfl⟩) ?_ ?_
                rotate_left
                ·simp only [Act.put,sA_,s0_,s1_,i64_w,i32_w]
                 rfl
                refine pure_ (i:=17) (N:=some 73) (v:=undef) (a':=?_) #[true,true,true,true,true,true,true,true,true,true,true,true,true,true,true,true,true,true,false,false,false,false,false,false,false,false,false,false,false,false,false,false] rfl rfl (any_of HT_.out (by kernel_rfl)) (fun _ _ _ h => h) (Or.inr ⟨by rfl,rfl⟩) ?_ ?_
                rotate_left
                ·simp only [Act.put,sA_,s0_,s1_,i64_w,i32_w]
                 rfl
                refine pure_ (i:=18) (N:=some 74) (v:=undef) (a':=?_) #[true,true,true,true,true,true,true,true,true,true,true,true,true,true,true,true,true,true,true,false,false,false,false,false,false,false,false,false,false,false,false,false] rfl rfl (any_of HT_.out (by kernel_rfl)) (fun _ _ _ h => h) (Or.inr ⟨by rfl,rfl⟩) ?_ ?_
                rotate_left
                ·simp only [Act.put,sA_,s0_,s1_,i64_w,i32_w]
                 rfl
                refine pure_ (i:=19) (N:=some 75) (v:=undef) (a':=?_) #[true,true,true,true,true,true,true,true,true,true,true,true,true,true,true,true,true,true,true,true,false,false,false,false,false,false,false,false,false,false,false,false] rfl rfl (any_of HT_.out (by kernel_rfl)) (fun _ _ _ h => h) (Or.inr ⟨by rfl,rfl⟩) ?_ ?_
                rotate_left
                ·simp only [Act.put,sA_,s0_,s1_,i64_w,i32_w]
                 rfl
                refine pure_ (i:=20) (N:=some 76) (v:=undef) (a':=?_) #[true,true,true,true,true,true,true,true,true,true,true,true,true,true,true,true,true,true,true,true,true,false,false,false,false,false,false,false,false,false,false,false] rfl rfl (any_of HT_.out (by kernel_rfl)) (fun _ _ _ h => h) (Or.inr ⟨by rfl,rfl⟩) ?_ ?_
                rotate_left
                ·simp only [Act.put,sA_,s0_,s1_,i64_w,i32_w]
                 rfl
                refine pure_ (i:=21) (N:=some 77) (v:=?_) (a':=?_) #[true,true,true,true,true,true,true,true,true,true,true,true,true,true,true,true,true,true,true,true,true,true,false,false,false,false,false,false,false,false,false,false] rfl rfl (any_of HT_.out (by kernel_rfl)) (fun _ _ _ h => h) (Or.inl ⟨by rfl, ?_⟩) ?_ ?_
                rotate_left
                ·intro w'
                 go_simp
                 with_reducible rfl
                rotate_left
                ·simp only [Act.put,sA_,s0_,s1_,i64_w,i32_w]
                 rfl
                refine pure_ (i:=22) (N:=some 78) (v:=?_) (a':=?_) #[true,true,true,true,true,true,true,true,true,true,true,true,true,true,true,true,true,true,true,true,true,true,true,false,false,false,false,false,false,false,false,false] rfl rfl (any_of HT_.out (by kernel_rfl)) (fun _ _ _ h => h) (Or.inl ⟨by rfl, ?_⟩) ?_ ?_
                rotate_left
                ·intro w'
                 go_simp
                 with_reducible rfl
                rotate_left
                ·simp only [Act.put,sA_,s0_,s1_,i64_w,i32_w]
                 rfl
                refine pure_ (i:=23) (N:=some 79) (v:=undef) (a':=?_) #[true,true,true,true,true,true,true,true,true,true,true,true,true,true,true,true,true,true,true,true,true,true,true,true,false,false,false,false,false,false,false,false] rfl rfl (any_of HT_.out (by kernel_rfl)) (fun _ _ _ h => h) (Or.inr ⟨by rfl,rfl⟩) ?_ ?_
                rotate_left
                ·simp only [Act.put,sA_,s0_,s1_,i64_w,i32_w]
                 rfl
                refine pure_ (i:=24) (N:=some 80) (v:=undef) (a':=?_) #[true,true,true,true,true,true,true,true,true,true,true,true,true,true,true,true,true,true,true,true,true,true,true,true,true,false,false,false,false,false,false,false] rfl rfl (any_of HT_.out (by kernel_rfl)) (fun _ _ _ h => h) (Or.inr ⟨by rfl,rfl⟩) ?_ ?_
                rotate_left
                ·simp only [Act.put,sA_,s0_,s1_,i64_w,i32_w]
                 rfl
                refine pure_ (i:=25) (N:=some 81) (v:=undef) (a':=?_) #[true,true,true,true,true,true,true,true,true,true,true,true,true,true,true,true,true,true,true,true,true,true,true,true,true,true,false,false,false,false,false,false] rfl rfl (any_of HT_.out (by kernel_rfl)) (fun _ _ _ h => h) (Or.inr ⟨by rfl,rfl⟩) ?_ ?_
                rotate_left
                ·simp only [Act.put,sA_,s0_,s1_,i64_w,i32_w]
                 rfl
                refine pure_ (i:=26) (N:=some 82) (v:=undef) (a':=?_) #[true,true,true,true,true,true,true,true,true,true,true,true,true,true,true,true,true,true,true,true,true,true,true,true,true,true,true,false,false,false,false,false] rfl rfl (any_of HT_.out (by kernel_rfl)) (fun _ _ _ h => h) (Or.inr ⟨by rfl,rfl⟩) ?_ ?_
                rotate_left
                ·simp only [Act.put,sA_,s0_,s1_,i64_w,i32_w]
                 rfl
                refine pure_ (i:=27) (N:=some 83) (v:=undef) (a':=?_) #[true,true,true,true,true,true,true,true,true,true,true,true,true,true,true,true,true,true,true,true,true,true,true,true,true,true,true,true,false,false,false,false] rfl rfl (any_of HT_.out (by kernel_rfl)) (fun _ _ _ h => h) (Or.inr ⟨by rfl,rfl⟩) ?_ ?_
                rotate_left
                ·simp only [Act.put,sA_,s0_,s1_,i64_w,i32_w]
                 rfl
                refine pure_ (i:=28) (N:=some 84) (v:=undef) (a':=?_) #[true,true,true,true,true,true,true,true,true,true,true,true,true,true,true,true,true,true,true,true,true,true,true,true,true,true,true,true,true,false,false,false] rfl rfl (any_of HT_.out (by kernel_rfl)) (fun _ _ _ h => h) (Or.inr ⟨by rfl,rfl⟩) ?_ ?_
                rotate_left
                ·simp only [Act.put,sA_,s0_,s1_,i64_w,i32_w]
                 rfl
                refine pure_ (i:=29) (N:=some 85) (v:=undef) (a':=?_) #[true,true,true,true,true,true,true,true,true,true,true,true,true,true,true,true,true,true,true,true,true,true,true,true,true,true,true,true,true,true,false,false] rfl rfl (any_of HT_.out (by kernel_rfl)) (fun _ _ _ h => h) (Or.inr ⟨by rfl,rfl⟩) ?_ ?_
                rotate_left
                ·simp only [Act.put,sA_,s0_,s1_,i64_w,i32_w]
                 rfl
                refine pure_ (i:=30) (N:=some 86) (v:=undef) (a':=?_) #[true,true,true,true,true,true,true,true,true,true,true,true,true,true,true,true,true,true,true,true,true,true,true,true,true,true,true,true,true,true,true,false] rfl rfl (any_of HT_.out (by kernel_rfl)) (fun _ _ _ h => h) (Or.inr ⟨by rfl,rfl⟩) ?_ ?_
                rotate_left
                ·simp only [Act.put,sA_,s0_,s1_,i64_w,i32_w]
                 rfl
                refine pure_ (i:=31) (N:=some 87) (v:=?_) (a':=?_) #[true,true,true,true,true,true,true,true,true,true,true,true,true,true,true,true,true,true,true,true,true,true,true,true,true,true,true,true,true,true,true,true] rfl rfl (any_of HT_.out (by kernel_rfl)) (fun _ _ _ h => h) (Or.inl ⟨by rfl, ?_⟩) ?_ ?_
                rotate_left
                ·intro w'
                 go_simp
                 with_reducible rfl
                rotate_left
                ·simp only [Act.put,sA_,s0_,s1_,i64_w,i32_w]
                 rfl
                refine done_ (done_of HT_.out (by kernel_rfl)) ?_
                try go_wp2
                go_ret
                exact ⟨by first | rfl | (simp [errW_none,errW_some] <;> rfl) | (simp [*,errW_none,errW_some] <;> rfl),by repeat (first | (with_reducible first | exact HB.out | apply below_alloc | apply pw_below_drewN | apply below_drew1 | refine below_set ?_ GE176.out) | exact HB.out)⟩
              ·rw [if_neg c20] at H
               exact absurd H (by simp)
             ·rw [if_neg c19] at H;have c19b0 : decide (x6_4 < ((rd_L1 l0_1 x4_2).length : Int)) = false:=decide_eq_false c19;clear c19;have H':=am_ H;clear H
              go_wp2
              go_roundg k4
              case measure => have:=HJ1.out;have:=HK2.out;have:=HJ10.out;have:=HK4.out;omega
              case rel => exact ⟨(wrap64 (x3_2 + ((rd_L1 l0_1 x4_2).length : Int))),(wrap64 (x4_2 + 1)),(by first | rfl | (simp;done) | (simp [*];done)),(by first | rfl | (simp;done) | (simp [*];done)),H',⟨by have:=HJ1.out;have:=HK2.out;have:=HJ10.out;have:=HK4.out;omega⟩,⟨by (with_reducible repeat (first | refine blk_drewN ?_ _ | refine blk_drew ?_ | refine blk_alloc ?_ _));exact BK176.out⟩,⟨by repeat (first | (with_reducible first | exact HB.out | apply below_alloc | apply pw_below_drewN | apply below_drew1 | refine below_set ?_ GE176.out) | exact HB.out)⟩⟩
       ·rw [if_neg c10] at H
        exact absurd H (by simp)
      ·rw [if_neg c9] at H;have c9b0 : decide (x4_2 < (l0_1.length : Int)) = false:=decide_eq_false c9;clear c9;obtain rfl:=Option.some.inj H;have hcz42_0:=c2_0 BK176.out;have hcz42_1:=c2_1 BK176.out;have hfz42_0:=blk_frozen BK176.out 0;have hfz42_1:=blk_frozen BK176.out 1
       go_wp2
       go_ret
       exact ⟨by first | rfl | (simp [errW_none,errW_some] <;> rfl) | (simp [*,errW_none,errW_some] <;> rfl),by repeat (first | (with_reducible first | exact HB.out | apply below_alloc | apply pw_below_drewN | apply below_drew1 | refine below_set ?_ GE176.out) | exact HB.out)⟩

end Go.Proofs.Ytglfjaaaegfdnaa.PFnExactCloseSlot
