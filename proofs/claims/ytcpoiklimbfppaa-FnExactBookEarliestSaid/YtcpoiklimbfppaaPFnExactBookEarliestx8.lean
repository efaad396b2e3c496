-- Written by a program of this session, over the kit's print (wip/xprint.py)
import Derived.Test.YtcpoiklimbfppaaPFnExactBookEarliestx0
import Derived.Test.YtcpoiklimbfppaaPFnExactBookEarliestx7
namespace Go.Proofs.Ytcpoiklimbfppaa.PFnExactBookEarliest
open Go.RowKit Go.Proofs.YtcpoiklimbfppaaW.PrintWords Go.Proofs.YtcpoiklimbfppaaW.PrintLast Go.Proofs.YtcpoiklimbfppaaW.PrintMore
attribute [local go_sem] max2_int min2_int max_two min_two max_three min_three max_four min_four   -- for this text's walks alone
set_option linter.unusedVariables false
set_option linter.unusedSimpArgs false

/-! ### impl_ownGate: function 34 -/
def impl_ownGate.l0 : Nat → List (List Int) → Int → Int → List Int → List (List Int) → Option (List Int × (List (List Int)))
 | 0,_,_,_,_,_ => none
 | k + 1,x11,x12,x13,x270000,x270001 => if x13 < x12 then (if 0 ≤ x13 then (if x13 < (x11.length : Int) then ((slices_Clone_int.f (rd_L1 x11 x13)).bind fun t271 => (if x270001.length < 5864062014805 then (impl_ownGate.l0 k x11 x12 (wrap64 (x13 + 1)) x270000 (x270001 ++ [t271])) else (none))) else (none)) else (none)) else (some (x270000,x270001))
def impl_ownGate.f (k : Nat) (l0_0 : List Int) (l0_1 : List (List Int)) : Option (List Int × (List (List Int))):=(slices_Clone_int.f l0_0).bind fun t266 => (impl_ownGate.l0 k l0_1 (l0_1.length : Int) 0 t266 ([] : List (List Int)))
theorem impl_ownGate.mono_l : ∀ k,(∀ y0 y1 y2 y3 y4,LeO (impl_ownGate.l0 k y0 y1 y2 y3 y4) (impl_ownGate.l0 (k + 1) y0 y1 y2 y3 y4))
 | 0 => fun _ _ _ _ _ r h => by simp [impl_ownGate.l0] at h
 | k + 1 => by
  have ih0:=impl_ownGate.mono_l k
  ·intro y0 y1 y2 y3 y4
   unfold impl_ownGate.l0
   repeat' first
   | (with_reducible exact ih0 _ _ _ _ _)
   | (with_reducible exact LeO.refl _)
   | (with_reducible exact LeO.none _)
   | (with_reducible refine LeO.ite ?_ ?_)
   | (with_reducible refine LeO.bind ?_ (fun _ => ?_))
   | exact ih0 _ _ _ _ _
   | exact LeO.none _
   | refine LeO.ite ?_ ?_
   | refine LeO.bind ?_ (fun _ => ?_)
theorem impl_ownGate.mono : ∀ a0 a1 k,LeO (impl_ownGate.f k a0 a1) (impl_ownGate.f (k + 1) a0 a1):=by
 intro a0 a1 k;have ih0:=impl_ownGate.mono_l k
 unfold impl_ownGate.f
 repeat' first
   | (with_reducible exact ih0 _ _ _ _ _)
   | (with_reducible exact LeO.refl _)
   | (with_reducible exact LeO.none _)
   | (with_reducible refine LeO.ite ?_ ?_)
   | (with_reducible refine LeO.bind ?_ (fun _ => ?_))
   | exact ih0 _ _ _ _ _
   | exact LeO.none _
   | refine LeO.ite ?_ ?_
   | refine LeO.bind ?_ (fun _ => ?_)
def impl_ownGate.T5 : Bool × List (List Nat × List Nat):=(true,[([],[]),([0],[0]),([],[]),([2],[2]),([3],[3]),([1,4,3],[1,4]),([0,1,2,3,4,5],[]),([6,5,5,0,1,2,3,4,5],[5,6])])
def impl_ownGate.B5 : List Nat := [0,1,0,4,12,31,63,127]
theorem impl_ownGate.tab5 : rtab .any (opsOf Try.f34 5) = impl_ownGate.T5:=by kernel_rfl
theorem impl_ownGate.bits5 : waitsOk impl_ownGate.T5.2 impl_ownGate.B5 = true:=by kernel_rfl
set_option maxHeartbeats 8000000 in
set_option maxRecDepth 100000 in
theorem impl_ownGate.calls (k : Nat) (A0_0 : Option Addr) (c0_0 : Nat) (l0_0 : List Int) (A0_1 : Option Addr) (c0_1 : Nat) (l0_1 : List (List Int)) (r1 : List Int) (r2 : List (List Int)) (w : World) (hr0_0 : Kd.C (Kd.int .i64) w A0_0 l0_0.length l0_0) (hc0_0 : l0_0.length ≤ c0_0) (hr0_1 : Kd.C (Kd.slice 3 (Kd.int .i64)) w A0_1 l0_1.length l0_1) (hc0_1 : l0_1.length ≤ c0_1) (h : impl_ownGate.f k l0_0 l0_1 = some (r1,r2)) :
  Calls Try.prog 34 #[.agg #[.slice A0_0 l0_0.length c0_0, .slice A0_1 l0_1.length c0_1]] w fun e w' => ∃ v0_ v1_ : Value,e = .returned (.agg #[v0_,v1_]) ∧ Kd.R (Kd.int .i64) 3 w' w.heap.size (fun _ => True) v0_ r1 ∧ Kd.S (Kd.slice 3 (Kd.int .i64)) 22 w' w.heap.size (fun k_ => some k_ ≠ (v0_ : Value).ownBlock) v1_ r2 ∧ Below w.heap.size w w':=by
 have hu27:=Try.underlying27;have HR0_0:=am_ hr0_0;have HC0_0:=am_ hc0_0;clear hr0_0 hc0_0;have HR0_1:=am_ hr0_1;have HC0_1:=am_ hc0_1;clear hr0_1 hc0_1;have HB:=am_ (Below.refl w.heap.size w);have H : ((slices_Clone_int.f l0_0).bind fun t266 => (impl_ownGate.l0 k l0_1 (l0_1.length : Int) 0 t266 ([] : List (List Int)))) = some (r1,r2):=h;clear h;replace H:=Option.bind_eq_some_iff.mp H;obtain ⟨t266,A20,H⟩ := H;replace H : (impl_ownGate.l0 k l0_1 (l0_1.length : Int) 0 t266 ([] : List (List Int))) = some (r1,r2):=H;have A2:=am_ A20;clear A20;have H':=am_ H;clear H
 go_enter Try.func34,Try.ntmps34
 go_wp2_with (first | ((with_reducible refine gate_dst (N:=1) rfl ?_);refine box_event ?hg (N:=1) ?hd (cs:=#[.slice A0_0 l0_0.length c0_0, .slice A0_1 l0_1.length c0_1]) (t:=27) ?hr ?_;(case hd => rfl);(case hg => rfl);(case hr => first | (go_simp;done) | (go_simp;rfl));intro gb264 hg w3 hbox hb;have n0_:=am_ (below_step (by repeat (first | (with_reducible first | exact HB.out | apply below_alloc | apply pw_below_drewN | apply below_drew1) | exact HB.out)) hb);have n1_:=am_ hbox;have n2_:=am_ ((by rw [hg];exact (below_size (by repeat (first | (with_reducible first | exact HB.out | apply below_alloc | apply pw_below_drewN | apply below_drew1) | exact HB.out))) : w.heap.size ≤ gb264));have n3_:=am_ ((by rw [hg];exact (below_size (by repeat (first | (with_reducible first | exact HB.out | apply below_alloc | apply pw_below_drewN | apply below_drew1) | exact HB.out))) : w.heap.size ≤ gb264));clear HB;have HB:=n0_;have BK264:=n1_;have GW264:=n2_;have GE264:=n3_;clear n0_ n1_ n2_ n3_;clear hb hbox hg) | ((with_reducible refine gate_dst (N:=2) rfl ?_);refine box_event ?hg (N:=2) ?hd (cs:=#[.slice none 0 0, .slice none 0 0]) (t:=27) ?hr ?_;(case hd => rfl);(case hg => rfl);(case hr => first | (go_simp;done) | (go_simp;rfl));intro gb265 hg w4 hbox hb;have n0_:=am_ (blk_below (g:=gb264) (o := .cells #[.slice A0_0 l0_0.length c0_0, .slice A0_1 l0_1.length c0_1] 27 (0,0)) (by (with_reducible repeat (first | refine blk_drewN ?_ _ | refine blk_drew ?_ | refine blk_alloc ?_ _));exact BK264.out) hb);have n1_:=am_ (below_step (by repeat (first | (with_reducible first | exact HB.out | apply below_alloc | apply pw_below_drewN | apply below_drew1 | refine below_set ?_ GE264.out) | exact HB.out)) hb);have n2_:=am_ hbox;have n3_:=am_ ((by rw [hg];exact (below_size (by repeat (first | (with_reducible first | exact HB.out | apply below_alloc | apply pw_below_drewN | apply below_drew1 | refine below_set ?_ GE264.out) | exact HB.out))) : w.heap.size ≤ gb265));have n4_:=am_ ((by rw [hg];exact (below_size (by repeat (first | (with_reducible first | exact HB.out | apply below_alloc | apply pw_below_drewN | apply below_drew1 | refine below_set ?_ GE264.out) | exact HB.out))) : w.heap.size ≤ gb265));have n5_:=am_ ((by rw [hg];exact Nat.ne_of_lt (blk_lt (g:=gb264) (o := .cells #[.slice A0_0 l0_0.length c0_0, .slice A0_1 l0_1.length c0_1] 27 (0,0)) (by (with_reducible repeat (first | refine blk_drewN ?_ _ | refine blk_drew ?_ | refine blk_alloc ?_ _));exact BK264.out)) : gb264 ≠ gb265));have n6_:=am_ ((by rw [hg];exact Nat.ne_of_gt (blk_lt (g:=gb264) (o := .cells #[.slice A0_0 l0_0.length c0_0, .slice A0_1 l0_1.length c0_1] 27 (0,0)) (by (with_reducible repeat (first | refine blk_drewN ?_ _ | refine blk_drew ?_ | refine blk_alloc ?_ _));exact BK264.out)) : gb265 ≠ gb264));clear BK264;clear HB;have BK264:=n0_;have HB:=n1_;have BK265:=n2_;have GW265:=n3_;have GE265:=n4_;have NB264_265:=n5_;have NB265_264:=n6_;clear n0_ n1_ n2_ n3_ n4_ n5_ n6_;clear hb hbox hg;have hnb5:=NB264_265.out;have hnc5:=NB265_264.out;have hcz6_0:=c2_0 BK264.out;have hcz6_1:=c2_1 BK264.out;have hfz6_0:=blk_frozen BK264.out 0;have hfz6_1:=blk_frozen BK264.out 1) | ((with_reducible refine gate_callee (f:=50) rfl ?_);refine goesL_ (some 8) rfl rfl Try.func50 (by kernel_rfl) rfl #[.slice A0_0 l0_0.length c0_0] rfl (by (try simp only [List.map_toArray,List.map_cons,List.map_nil]);first | done | rfl | (simp only [List.length_drop,List.length_take];rfl)) ?_;(with_reducible refine (slices_Clone_int.calls _ _ l0_0 t266 _ ?side1 ?side2 A2.out).mono ?_);(case side1 => repeat (first | exact (Kd.C_below HR0_0.out HB.out) | (with_reducible refine Kd.C_alloc ?_ _) | (with_reducible refine Kd.C_drewN ?_ _) | (with_reducible refine Kd.C_drew ?_)));(case side2 => exact HC0_0.out);rintro e w7 ⟨v267,rfl,ho0,hb⟩;refine ⟨_,rfl, ?_⟩;have n0_:=am_ (Kd.R_lower ho0 (below_size (by repeat (first | (with_reducible first | exact HB.out | apply below_alloc | apply pw_below_drewN | apply below_drew1 | refine below_set ?_ GE264.out | refine below_set ?_ GE265.out) | exact HB.out))));have n1_:=am_ (blk_below (g:=gb264) (o := .cells #[.slice A0_0 l0_0.length c0_0, .slice A0_1 l0_1.length c0_1] 27 (0,0)) (by (with_reducible repeat (first | refine blk_drewN ?_ _ | refine blk_drew ?_ | refine blk_alloc ?_ _));exact BK264.out) hb);have n2_:=am_ (blk_below (g:=gb265) (o := .cells #[.slice none 0 0, .slice none 0 0] 27 (0,0)) (by (with_reducible repeat (first | refine blk_drewN ?_ _ | refine blk_drew ?_ | refine blk_alloc ?_ _));exact BK265.out) hb);have n3_:=am_ (below_step (by repeat (first | (with_reducible first | exact HB.out | apply below_alloc | apply pw_below_drewN | apply below_drew1 | refine below_set ?_ GE264.out | refine below_set ?_ GE265.out) | exact HB.out)) hb);clear BK264;clear BK265;clear HB;have HO268:=n0_;have BK264:=n1_;have BK265:=n2_;have HB:=n3_;clear n0_ n1_ n2_ n3_;(try clear hb);(try clear hb2);(try clear hk);(try clear hi);(try clear ho0);obtain ⟨Ao8,co8,eo8⟩ := Kd.R_slice HO268.out;subst eo8) | ((with_reducible refine gate_dst (N:=3) rfl ?_);refine box_event ?hg (N:=3) ?hd (cs:=#[.slice none 0 0, .slice none 0 0]) (t:=27) ?hr ?_;(case hd => rfl);(case hg => rfl);(case hr => first | (go_simp;done) | (go_simp;rfl));intro gb269 hg w9 hbox hb;have n0_:=am_ (Kd.R_below (by (with_reducible repeat (first | apply Kd.R_alloc | apply Kd.R_drewN | apply Kd.R_drew));exact HO268.out) hb);have n1_:=am_ (blk_below (g:=gb264) (o := .cells #[.slice A0_0 l0_0.length c0_0, .slice A0_1 l0_1.length c0_1] 27 (0,0)) (by (with_reducible repeat (first | refine blk_drewN ?_ _ | refine blk_drew ?_ | refine blk_alloc ?_ _));exact BK264.out) hb);have n2_:=am_ (blk_below (g:=gb265) (o := .cells #[.slice none 0 0, .slice none 0 0] 27 (0,0)) (by (with_reducible repeat (first | refine blk_drewN ?_ _ | refine blk_drew ?_ | refine blk_alloc ?_ _));exact BK265.out) hb);have n3_:=am_ (below_step (by repeat (first | (with_reducible first | exact HB.out | apply below_alloc | apply pw_below_drewN | apply below_drew1 | refine below_set ?_ GE264.out | refine below_set ?_ GE265.out) | exact HB.out)) hb);have n4_:=am_ hbox;have n5_:=am_ ((by rw [hg];exact (below_size (by repeat (first | (with_reducible first | exact HB.out | apply below_alloc | apply pw_below_drewN | apply below_drew1 | refine below_set ?_ GE264.out | refine below_set ?_ GE265.out) | exact HB.out))) : w.heap.size ≤ gb269));have n6_:=am_ ((by rw [hg];exact (below_size (by repeat (first | (with_reducible first | exact HB.out | apply below_alloc | apply pw_below_drewN | apply below_drew1 | refine below_set ?_ GE264.out | refine below_set ?_ GE265.out) | exact HB.out))) : w.heap.size ≤ gb269));have n7_:=am_ ((by rw [hg];exact Nat.ne_of_lt (blk_lt (g:=gb264) (o := .cells #[.slice A0_0 l0_0.length c0_0, .slice A0_1 l0_1.length c0_1] 27 (0,0)) (by (with_reducible repeat (first | refine blk_drewN ?_ _ | refine blk_drew ?_ | refine blk_alloc ?_ _));exact BK264.out)) : gb264 ≠ gb269));have n8_:=am_ ((by rw [hg];exact Nat.ne_of_gt (blk_lt (g:=gb264) (o := .cells #[.slice A0_0 l0_0.length c0_0, .slice A0_1 l0_1.length c0_1] 27 (0,0)) (by (with_reducible repeat (first | refine blk_drewN ?_ _ | refine blk_drew ?_ | refine blk_alloc ?_ _));exact BK264.out)) : gb269 ≠ gb264));have n9_:=am_ ((by rw [hg];exact Nat.ne_of_lt (blk_lt (g:=gb265) (o := .cells #[.slice none 0 0, .slice none 0 0] 27 (0,0)) (by (with_reducible repeat (first | refine blk_drewN ?_ _ | refine blk_drew ?_ | refine blk_alloc ?_ _));exact BK265.out)) : gb265 ≠ gb269));have n10_:=am_ ((by rw [hg];exact Nat.ne_of_gt (blk_lt (g:=gb265) (o := .cells #[.slice none 0 0, .slice none 0 0] 27 (0,0)) (by (with_reducible repeat (first | refine blk_drewN ?_ _ | refine blk_drew ?_ | refine blk_alloc ?_ _));exact BK265.out)) : gb269 ≠ gb265));clear HO268;clear BK264;clear BK265;clear HB;have HO268:=n0_;have BK264:=n1_;have BK265:=n2_;have HB:=n3_;have BK269:=n4_;have GW269:=n5_;have GE269:=n6_;have NB264_269:=n7_;have NB269_264:=n8_;have NB265_269:=n9_;have NB269_265:=n10_;clear n0_ n1_ n2_ n3_ n4_ n5_ n6_ n7_ n8_ n9_ n10_;clear hb hbox hg;have hnb10:=NB269_264.out;have hnc10:=NB264_269.out;have hnb11:=NB269_265.out;have hnc11:=NB265_269.out;have hcz12_0:=c2_0 BK269.out;have hcz12_1:=c2_1 BK269.out;have hfz12_0:=blk_frozen BK269.out 0;have hfz12_1:=blk_frozen BK269.out 1;have hcz13_0:=c2_0 BK264.out;have hcz13_1:=c2_1 BK264.out;have hfz13_0:=blk_frozen BK264.out 0;have hfz13_1:=blk_frozen BK264.out 1))
 go_loopg [13] k (fun kq v13 w' => ∃ (x13_1 : Int) (x270001_1 : List (List Int)) (u270001 : Value),v13 = .int .i64 x13_1 ∧ Aside0 (impl_ownGate.l0 kq l0_1 (l0_1.length : Int) x13_1 t266 x270001_1 = some (r1,r2)) ∧ Aside0 (kq ≤ k) ∧ Aside0 (Kd.R (Kd.int .i64) 3 w' w.heap.size (fun _ => True) (.slice Ao8 t266.length co8) t266) ∧ Aside0 (Kd.S (Kd.slice 3 (Kd.int .i64)) 22 w' w.heap.size (fun k_ => some k_ ≠ ((.slice Ao8 t266.length co8) : Value).ownBlock) u270001 x270001_1) ∧ Aside0 (w'.heap[gb264]? = some (.cells #[(.slice A0_0 l0_0.length c0_0),(.slice A0_1 l0_1.length c0_1)] 27 (0,0))) ∧ Aside0 (w'.heap[gb265]? = some (.cells #[(.slice none 0 0),(.slice none 0 0)] 27 (0,0))) ∧ Aside0 (w'.heap[gb269]? = some (.cells #[(.slice Ao8 t266.length co8),u270001] 27 (0,0))) ∧ Aside0 (Below w.heap.size w w'))
 case atStart => exact ⟨(0),(([] : List (List Int))),(.slice none 0 0),(by first | rfl | (simp;done) | (simp [*];done)),H',⟨Nat.le_refl _⟩,⟨by (with_reducible repeat (first | apply Kd.R_alloc | apply Kd.R_drewN | apply Kd.R_drew));exact Kd.R_mono (rf2_ (Kd.R_types HO268.out BK269.out (by decide)) (.slice Ao8 t266.length co8) (.slice none 0 0)) (fun _ hk => trivial)⟩,⟨by first | exact Kd.S_nil _ _ _ _ _ | exact Kd.N_nil _ _ _ _ _ | exact Kd.V_nil _ _ _ _ _ | exact Kd.Q_nil _ _ _ _ _ | exact Kd.R_nil _ _ _ _ _⟩,⟨by (with_reducible repeat (first | refine blk_drewN ?_ _ | refine blk_drew ?_ | refine blk_alloc ?_ _));refine blk_far ?_ NB264_269.out _;(with_reducible repeat (first | refine blk_drewN ?_ _ | refine blk_drew ?_ | refine blk_alloc ?_ _));refine blk_far ?_ NB264_269.out _;(with_reducible repeat (first | refine blk_drewN ?_ _ | refine blk_drew ?_ | refine blk_alloc ?_ _));exact BK264.out⟩,⟨by (with_reducible repeat (first | refine blk_drewN ?_ _ | refine blk_drew ?_ | refine blk_alloc ?_ _));refine blk_far ?_ NB265_269.out _;(with_reducible repeat (first | refine blk_drewN ?_ _ | refine blk_drew ?_ | refine blk_alloc ?_ _));refine blk_far ?_ NB265_269.out _;(with_reducible repeat (first | refine blk_drewN ?_ _ | refine blk_drew ?_ | refine blk_alloc ?_ _));exact BK265.out⟩,⟨by (with_reducible repeat (first | refine blk_drewN ?_ _ | refine blk_drew ?_ | refine blk_alloc ?_ _));refine blk_put (cs:=#[.slice Ao8 t266.length co8, .slice none 0 0]) ?_ 1 _ rfl;(with_reducible repeat (first | refine blk_drewN ?_ _ | refine blk_drew ?_ | refine blk_alloc ?_ _));refine blk_put (cs:=#[.slice none 0 0, .slice none 0 0]) ?_ 0 _ rfl;(with_reducible repeat (first | refine blk_drewN ?_ _ | refine blk_drew ?_ | refine blk_alloc ?_ _));exact BK269.out⟩,⟨by repeat (first | (with_reducible first | exact HB.out | apply below_alloc | apply pw_below_drewN | apply below_drew1 | refine below_set ?_ GE264.out | refine below_set ?_ GE265.out | refine below_set ?_ GE269.out) | exact HB.out)⟩⟩
 case round =>
  clear H';(try clear c1);(try clear p2);(try clear c3);(try clear c5);(try clear c10);(try clear c11);(try clear hcz12_0);(try clear hcz12_1);(try clear hcz13_0);(try clear hcz13_1);(try clear hcz6_0);(try clear hcz6_1);(try clear hfz12_0);(try clear hfz12_1);(try clear hfz13_0);(try clear hfz13_1);(try clear hfz6_0);(try clear hfz6_1);obtain ⟨x13_1,x270001_1,u270001,rfl,HA,HK1,HO_270000,HO_270001,BK264,BK265,BK269,HB⟩ := hrel
  cases gk with
  | zero => exact absurd HA.out (by simp [impl_ownGate.l0])
  | succ k1 =>
   have H:=HA.out;clear HA;simp only [impl_ownGate.l0] at H
   by_cases c14 : x13_1 < (l0_1.length : Int)
   ·rw [if_pos c14] at H;have c14b0 : decide (x13_1 < (l0_1.length : Int)) = true:=decide_eq_true c14;clear c14
    by_cases c15 : 0 ≤ x13_1
    ·rw [if_pos c15] at H;have c15b0 : decide (0 ≤ x13_1) = true:=decide_eq_true c15;clear c15
     by_cases c16 : x13_1 < (l0_1.length : Int)
     ·rw [if_pos c16] at H;have c16b0 : decide (x13_1 < (l0_1.length : Int)) = true:=decide_eq_true c16;clear c16;replace H:=Option.bind_eq_some_iff.mp H;obtain ⟨t271,A170,H⟩ := H;replace H : (if x270001_1.length < 5864062014805 then (impl_ownGate.l0 k1 l0_1 (l0_1.length : Int) (wrap64 (x13_1 + 1)) t266 (x270001_1 ++ [t271])) else (none)) = some (r1,r2):=H;have A17:=am_ A170;clear A170
      by_cases c18 : x270001_1.length < 5864062014805
      ·rw [if_pos c18] at H;have LMc18:=am_ c18;clear c18;obtain ⟨y274,hy274⟩ : ∃ y_ : List (List Int),y_ = (x270001_1 ++ [t271]):=⟨_,rfl⟩
       replace H : (impl_ownGate.l0 k1 l0_1 (l0_1.length : Int) (wrap64 (x13_1 + 1)) t266 y274) = some (r1,r2):=by first | (rw [hy274];with_reducible exact H) | (have H2_:=(Option.bind_some _ _).symm.trans H;rw [hy274];with_reducible exact H2_) | (have H2_:=(Option.bind_some _ _).symm.trans H;with_reducible exact H2_) | with_reducible exact H | (rw [hy274];exact H) | exact H
       have Ny274:=am_ hy274;clear hy274;have H':=am_ H;clear H;have p270 : 0 ≤ (x13_1 : Int):=of_decide_eq_true (by first | (with_reducible assumption) | assumption);have q270 : x13_1 < (l0_1.length : Int):=of_decide_eq_true (by first | (with_reducible assumption) | assumption);obtain ⟨ad270,A270_0,c270_0,e270,hx270_0,hl270_0,hi270_0⟩ := at_L1 HR0_1.out x13_1 p270 q270;cases e270;replace hx270_0:=(HB.out.cell (World.block_lt_of_cell? w _ hx270_0)).trans hx270_0;have HR270_0:=am_ hi270_0;have HC270_0:=am_ hl270_0;clear hi270_0 hl270_0;replace p270:=eq_true p270;replace q270:=eq_true q270
       try go_wp2
       have n0_:=am_ (Kd.R_drew HO_270000.out);have n1_:=am_ (Kd.S_drew HO_270001.out);have n2_:=am_ (blk_drew BK264.out);have n3_:=am_ (blk_drew BK265.out);have n4_:=am_ (blk_drew BK269.out);have n5_:=am_ (below_drew1 HB.out);clear HO_270000;clear HO_270001;clear BK264;clear BK265;clear BK269;clear HB;have HO_270000:=n0_;have HO_270001:=n1_;have BK264:=n2_;have BK265:=n3_;have BK269:=n4_;have HB:=n5_;clear n0_ n1_ n2_ n3_ n4_ n5_
       refine start_ (n:=8) (S:=fun w' => w'.cell? ⟨gb269,0,none⟩ = some (.slice Ao8 t266.length co8) ∧ w'.cell? ⟨gb269,1,none⟩ = some (u270001)) (ds := [7]) #[false,false,false,false,false,false,false,false] (by kernel_rfl) rfl rfl ⟨(blk_cell BK269.out 0).trans rfl,(blk_cell BK269.out 1).trans rfl⟩ (fun hHeld => ?_);refine with_tabW impl_ownGate.tab5 impl_ownGate.bits5 (fun HT_ HW_ => ?_)
       generalize wr.drew = w19 at HO_270000 HO_270001 BK264 BK265 BK269 HB hHeld ⊢;refine pure_ (i:=0) (N:=some 17) (v:=?_) (a':=?_) #[true,false,false,false,false,false,false,false] rfl rfl (any_of HT_.out (by kernel_rfl)) (fun _ _ _ h => h) (Or.inl ⟨by rfl, ?_⟩) ?_ ?_
       rotate_left
       ·intro w'
        go_simp
        with_reducible rfl
       rotate_left
       ·simp only [Act.put,sA_,s0_,s1_,i64_w,i32_w]
        rfl
       refine pure_ (i:=2) (N:=some 19) (v:=?_) (a':=?_) #[true,false,true,false,false,false,false,false] rfl rfl (any_of HT_.out (by kernel_rfl)) (fun _ _ _ h => h) (Or.inl ⟨by rfl, ?_⟩) ?_ ?_
       rotate_left
       ·intro w'
        go_simp
        with_reducible rfl
       rotate_left
       ·simp only [Act.put,sA_,s0_,s1_,i64_w,i32_w]
        rfl
       refine take_ (i:=1) (N:=some 18) (v:=?_) (a':=?_) #[true,true,true,false,false,false,false,false] rfl rfl (take_ofW HT_.out HW_.out (by kernel_rfl)) (fun _ _ _ h => h) (Or.inl ⟨by rfl, ?_⟩) hHeld ?_ ?_
       rotate_left
       ·rintro w' ⟨s0,s1⟩
        go_simp
        with_reducible rfl
       rotate_left
       ·simp only [Act.put,sA_,s0_,s1_,i64_w,i32_w]
        rfl
       refine one_ (i:=3) (N:=some 20) #[true,true,true,true,false,false,false,false] rfl rfl (one_of HT_.out (by kernel_rfl)) (by decide) (fun K hK => ?_);refine goes_ Try.func50 (by kernel_rfl) rfl #[.slice A270_0 (rd_L1 l0_1 x13_1).length c270_0] (by rfl) rfl rfl (by (try simp only [List.map_toArray,List.map_cons,List.map_nil]);first | done | rfl | (simp only [List.length_drop,List.length_take];rfl)) ?_
       with_reducible refine (slices_Clone_int.calls _ _ (rd_L1 l0_1 x13_1) t271 _ ?side1 ?side2 A17.out).mono ?_
       (case side1 => repeat (first | exact (Kd.C_below HR270_0.out HB.out) | (with_reducible refine Kd.C_alloc ?_ _) | (with_reducible refine Kd.C_drewN ?_ _) | (with_reducible refine Kd.C_drew ?_)))
       (case side2 => exact HC270_0.out)
       rintro e w20 ⟨v272,rfl,ho0,hb⟩;refine ⟨_,rfl, ?_⟩;have n0_:=am_ (Kd.R_elder' (by (with_reducible repeat (first | apply Kd.R_alloc | apply Kd.R_drewN | apply Kd.R_drew));exact HO_270000.out) (Kd.R_base ho0) hb);have n1_:=am_ (Kd.S_elder' (by (with_reducible repeat (first | apply Kd.S_alloc | apply Kd.S_drewN | apply Kd.S_drew));exact HO_270001.out) (Kd.R_base ho0) hb);have n2_:=am_ (Kd.R_lower (Kd.R_new' ho0 (Kd.R_lt (by (with_reducible repeat (first | apply Kd.R_alloc | apply Kd.R_drewN | apply Kd.R_drew));exact HO_270000.out))) (below_size (by repeat (first | (with_reducible first | exact HB.out | apply below_alloc | apply pw_below_drewN | apply below_drew1 | refine below_set ?_ GE264.out | refine below_set ?_ GE265.out | refine below_set ?_ GE269.out) | exact HB.out))));have n3_:=am_ (blk_below (g:=gb264) (o := .cells #[.slice A0_0 l0_0.length c0_0, .slice (some ad270) l0_1.length c0_1] 27 (0,0)) (by (with_reducible repeat (first | refine blk_drewN ?_ _ | refine blk_drew ?_ | refine blk_alloc ?_ _));exact BK264.out) hb);have n4_:=am_ (blk_below (g:=gb265) (o := .cells #[.slice none 0 0, .slice none 0 0] 27 (0,0)) (by (with_reducible repeat (first | refine blk_drewN ?_ _ | refine blk_drew ?_ | refine blk_alloc ?_ _));exact BK265.out) hb);have n5_:=am_ (blk_below (g:=gb269) (o := .cells #[.slice Ao8 t266.length co8,u270001] 27 (0,0)) (by (with_reducible repeat (first | refine blk_drewN ?_ _ | refine blk_drew ?_ | refine blk_alloc ?_ _));exact BK269.out) hb);have n6_:=am_ (below_step (by repeat (first | (with_reducible first | exact HB.out | apply below_alloc | apply pw_below_drewN | apply below_drew1 | refine below_set ?_ GE264.out | refine below_set ?_ GE265.out | refine below_set ?_ GE269.out) | exact HB.out)) hb);clear HO_270000;clear HO_270001;clear BK264;clear BK265;clear BK269;clear HB;have HO_270000:=n0_;have HO_270001:=n1_;have HO273:=n2_;have BK264:=n3_;have BK265:=n4_;have BK269:=n5_;have HB:=n6_;clear n0_ n1_ n2_ n3_ n4_ n5_ n6_;(try clear hb);(try clear hb2);(try clear hk);(try clear hi);(try clear ho0);obtain ⟨Ao22,co22,eo22⟩ := Kd.R_slice HO273.out
       (first | subst eo22 | (injection eo22 with f1_ f2_ f3_;have f4_:=f1_.symm;have f5_:=f3_.symm;clear f1_ f2_ f3_;subst f4_;subst f5_))
       refine hK.out _ _ ⟨(blk_cell BK269.out 0).trans rfl,(blk_cell BK269.out 1).trans rfl⟩ (fun hHeld => ?_);clear hK K;refine norm_ (a':=?_) ?_ ?_
       rotate_left
       ·show Act.put _ (some 20) _ = _
        simp only [Act.put,sA_,s0_,s1_,i64_w,i32_w]
        rfl
       refine one_ (i:=4) (N:=some 21) #[true,true,true,true,true,false,false,false] rfl rfl (one_of HT_.out (by kernel_rfl)) (by decide) (fun K hK => ?_);refine value_ (w1:=?_) (v:=?_) (by rfl) rfl ?_ ?_
       rotate_left 2
       ·go_simp
        constructor
        ·rfl
        ·rfl
       refine hK.out _ _ ⟨(blk_cell (blk_alloc BK269.out _) 0).trans rfl,(blk_cell (blk_alloc BK269.out _) 1).trans rfl⟩ (fun hHeld => ?_);clear hK K;refine norm_ (a':=?_) ?_ ?_
       rotate_left
       ·show Act.put _ (some 21) _ = _
        simp only [Act.put,sA_,s0_,s1_,i64_w,i32_w]
        rfl
       refine one_ (i:=5) (N:=some 22) #[true,true,true,true,true,true,false,false] rfl rfl (one_of HT_.out (by kernel_rfl)) (by decide) (fun K hK => ?_);refine Kd.S_append_step (Kd.slice 3 (Kd.int .i64)) (w0:=w) w.heap.size (by rfl) (.tmp 18) (.tmp 21) 23 22 (.slice none 0 0) 24 rfl Try.underlying23 info22 rfl (by decide) (by omega) u270001 x270001_1 t271 [.slice Ao22 t271.length co22] (fun k_ => some k_ ≠ (.slice Ao8 t266.length co8 : Value).ownBlock) (fun k_ => some k_ = (.slice Ao22 t271.length co22 : Value).ownBlock) rfl rfl ?aP (fun k_ hk_ => ((Kd.R_mono (ok':=fun k_ => ((fun k_ => some k_ ≠ (.slice Ao8 t266.length co8 : Value).ownBlock)) k_ ∧ some k_ ≠ (u270001 : Value).ownBlock) (Kd.R_apart' (HO273.out) (Kd.S_typed HO_270001.out) (by decide)) (fun k_ hk => ⟨hk.1.2,hk.2⟩))).1 k_ hk_.symm) ?aF ?aO ?aB ?aS ?aL ?_
       (case aP => exact Kd.M_row (Kd.R_mono (Kd.R_tight rfl (Kd.R_mono (ok':=fun k_ => ((fun k_ => some k_ ≠ (.slice Ao8 t266.length co8 : Value).ownBlock)) k_ ∧ some k_ ≠ (u270001 : Value).ownBlock) (Kd.R_apart' (HO273.out) (Kd.S_typed HO_270001.out) (by decide)) (fun k_ hk => ⟨hk.1.2,hk.2⟩))) (fun _ h_ => h_)))
       (case aB => exact (by repeat (first | (with_reducible first | exact HB.out | apply below_alloc | apply pw_below_drewN | apply below_drew1 | refine below_set ?_ GE264.out | refine below_set ?_ GE265.out | refine below_set ?_ GE269.out) | exact HB.out)))
       (case aF => exact (fun k_ hk => Kd.fresh' (Kd.R_lt (by (with_reducible repeat (first | apply Kd.R_alloc | apply Kd.R_drewN | apply Kd.R_drew));exact HO_270000.out)) k_ hk))
       (case aO => exact (by (with_reducible repeat (first | apply Kd.S_alloc | apply Kd.S_drewN | apply Kd.S_drew));exact Kd.S_mono HO_270001.out (fun k_ hk => ⟨hk.1,fun e_ => hk.2 e_⟩)))
       (case aS => exact (below_size (by repeat (first | (with_reducible first | exact HB.out | apply below_alloc | apply pw_below_drewN | apply below_drew1 | refine below_set ?_ GE264.out | refine below_set ?_ GE265.out | refine below_set ?_ GE269.out) | exact HB.out))))
       (case aL => have:=LMc18.out;omega)
       intro v275 w21 ho hb hg hat
       rw [← Ny274.out] at ho;have n0_:=am_ (Kd.R_over' (by (with_reducible repeat (first | apply Kd.R_alloc | apply Kd.R_drewN | apply Kd.R_drew));exact HO_270000.out) (Kd.S_typed (by (with_reducible repeat (first | apply Kd.S_alloc | apply Kd.S_drewN | apply Kd.S_drew));exact HO_270001.out)) (by decide) hg);have n1_:=am_ (blk_grown (g:=gb264) (o := .cells #[.slice A0_0 l0_0.length c0_0, .slice (some ad270) l0_1.length c0_1] 27 (0,0)) (by (with_reducible repeat (first | refine blk_drewN ?_ _ | refine blk_drew ?_ | refine blk_alloc ?_ _));exact BK264.out) hg (Kd.S_ne HO_270001.out BK264.out (by decide)));have n2_:=am_ (blk_grown (g:=gb265) (o := .cells #[.slice none 0 0, .slice none 0 0] 27 (0,0)) (by (with_reducible repeat (first | refine blk_drewN ?_ _ | refine blk_drew ?_ | refine blk_alloc ?_ _));exact BK265.out) hg (Kd.S_ne HO_270001.out BK265.out (by decide)));have n3_:=am_ (blk_grown (g:=gb269) (o := .cells #[.slice Ao8 t266.length co8,u270001] 27 (0,0)) (by (with_reducible repeat (first | refine blk_drewN ?_ _ | refine blk_drew ?_ | refine blk_alloc ?_ _));exact BK269.out) hg (Kd.S_ne HO_270001.out BK269.out (by decide)));have n4_:=am_ hb;have n5_:=am_ (ho);clear HO_270000;clear BK264;clear BK265;clear BK269;clear HB;clear HO_270001;clear HO273;have HO_270000:=n0_;have BK264:=n1_;have BK265:=n2_;have BK269:=n3_;have HB:=n4_;have HO276:=n5_;clear n0_ n1_ n2_ n3_ n4_ n5_
       clear ho hb hg hat
       obtain ⟨Ao23,co23,eo23⟩ := Kd.S_slice HO276.out
       (first | subst eo23 | (injection eo23 with f1_ f2_ f3_;have f4_:=f1_.symm;have f5_:=f3_.symm;clear f1_ f2_ f3_;subst f4_;subst f5_))
       refine hK.out _ _ ⟨(blk_cell BK269.out 0).trans rfl,(blk_cell BK269.out 1).trans rfl⟩ (fun hHeld => ?_);clear hK K;refine norm_ (a':=?_) ?_ ?_
       rotate_left
       ·show Act.put _ (some 22) _ = _
        simp only [Act.put,sA_,s0_,s1_,i64_w,i32_w]
        rfl
       refine pure_ (i:=6) (N:=some 23) (v:=?_) (a':=?_) #[true,true,true,true,true,true,true,false] rfl rfl (any_of HT_.out (by kernel_rfl)) (fun _ _ _ h => h) (Or.inl ⟨by rfl, ?_⟩) ?_ ?_
       rotate_left
       ·intro w'
        go_simp
        with_reducible rfl
       rotate_left
       ·simp only [Act.put,sA_,s0_,s1_,i64_w,i32_w]
        rfl
       refine last_ (i:=7) (N:=none) #[true,true,true,true,true,true,true,true] rfl rfl (one_of HT_.out (by kernel_rfl)) (by decide) (fun K hK => ?_);have hs24 : w21.cell? ⟨gb269,1,none⟩ = some (u270001):=(blk_cell BK269.out 1).trans rfl;have hfs24:=blk_frozen BK269.out 1;have hns24_0:=NB264_269.out;have hns24_1:=NB265_269.out;have hms24_0:=NB269_264.out;have hms24_1:=NB269_265.out;refine skip_ (w1:=?_) (by rfl) rfl ?_ ?_
       rotate_left
       ·go_simp
        rfl
       refine hK.out _ _ ?_;clear hK K;refine done_ (done_of HT_.out (by kernel_rfl)) ?_
       try go_wp2
       go_roundg k1
       case measure => have:=HK1.out;omega
       case rel => exact ⟨(wrap64 (x13_1 + 1)),(y274),(.slice Ao23 y274.length co23),(by first | rfl | (simp;done) | (simp [*];done)),H',⟨by have:=HK1.out;omega⟩,⟨by (with_reducible repeat (first | apply Kd.R_alloc | apply Kd.R_drewN | apply Kd.R_drew));exact Kd.R_mono (Kd.R_far (p:=⟨gb269,1,none⟩) (Kd.R_types HO_270000.out BK269.out (by decide)) (fun _ hk => hk.2) (.slice Ao23 y274.length co23)) (fun _ hk => trivial)⟩,⟨by (with_reducible repeat (first | apply Kd.S_alloc | apply Kd.S_drewN | apply Kd.S_drew));exact Kd.S_mono (Kd.S_far (p:=⟨gb269,1,none⟩) (Kd.S_types HO276.out BK269.out (by decide)) (fun _ hk => hk.2) (.slice Ao23 y274.length co23)) (fun _ hk => hk.1)⟩,⟨by (with_reducible repeat (first | refine blk_drewN ?_ _ | refine blk_drew ?_ | refine blk_alloc ?_ _));refine blk_far ?_ NB264_269.out _;(with_reducible repeat (first | refine blk_drewN ?_ _ | refine blk_drew ?_ | refine blk_alloc ?_ _));exact BK264.out⟩,⟨by (with_reducible repeat (first | refine blk_drewN ?_ _ | refine blk_drew ?_ | refine blk_alloc ?_ _));refine blk_far ?_ NB265_269.out _;(with_reducible repeat (first | refine blk_drewN ?_ _ | refine blk_drew ?_ | refine blk_alloc ?_ _));exact BK265.out⟩,⟨by (with_reducible repeat (first | refine blk_drewN ?_ _ | refine blk_drew ?_ | refine blk_alloc ?_ _));refine blk_put (cs:=#[.slice Ao8 t266.length co8,u270001]) ?_ 1 _ rfl;(with_reducible repeat (first | refine blk_drewN ?_ _ | refine blk_drew ?_ | refine blk_alloc ?_ _));exact BK269.out⟩,⟨by repeat (first | (with_reducible first | exact HB.out | apply below_alloc | apply pw_below_drewN | apply below_drew1 | refine below_set ?_ GE264.out | refine below_set ?_ GE265.out | refine below_set ?_ GE269.out) | exact HB.out)⟩⟩
      ·rw [if_neg c18] at H
       exact absurd H (by simp)
     ·rw [if_neg c16] at H
      exact absurd H (by simp)
    ·rw [if_neg c15] at H
     exact absurd H (by simp)
   ·rw [if_neg c14] at H;have c14b0 : decide (x13_1 < (l0_1.length : Int)) = false:=decide_eq_false c14;clear c14;simp only [Option.some.injEq,Prod.mk.injEq] at H;obtain ⟨rfl,rfl⟩ := H;have hnb25:=NB269_264.out;have hnc25:=NB264_269.out;have hnb26:=NB269_265.out;have hnc26:=NB265_269.out;have hcz27_0:=c2_0 BK269.out;have hcz27_1:=c2_1 BK269.out;have hfz27_0:=blk_frozen BK269.out 0;have hfz27_1:=blk_frozen BK269.out 1;have hnb28:=NB265_264.out;have hnc28:=NB264_265.out;have hcz29_0:=c2_0 BK265.out;have hcz29_1:=c2_1 BK265.out;have hfz29_0:=blk_frozen BK265.out 0;have hfz29_1:=blk_frozen BK265.out 1;obtain ⟨Ao30,co30,eo30⟩ := Kd.S_slice HO_270001.out;subst eo30
    go_wp2
    refine bodyPost_ret (results_cell_row rfl _ _ gb265 27 #[.slice Ao8 t266.length co8, .slice Ao30 x270001_1.length co30] (0,0) _ rfl ?hblk_ Try.underlying27 rfl (by kernel_rfl)) rfl ?_
    case hblk_ => (with_reducible repeat (first | refine blk_drewN ?_ _ | refine blk_drew ?_ | refine blk_alloc ?_ _));refine blk_put (cs:=#[.slice Ao8 t266.length co8, .slice none 0 0]) ?_ 1 _ rfl;(with_reducible repeat (first | refine blk_drewN ?_ _ | refine blk_drew ?_ | refine blk_alloc ?_ _));refine blk_put (cs:=#[.slice none 0 0, .slice none 0 0]) ?_ 0 _ rfl;(with_reducible repeat (first | refine blk_drewN ?_ _ | refine blk_drew ?_ | refine blk_alloc ?_ _));exact BK265.out
    exact ⟨_,_,by first | rfl | (simp [errW_none,errW_some] <;> rfl) | (simp [*,errW_none,errW_some] <;> rfl),by (with_reducible repeat (first | apply Kd.R_alloc | apply Kd.R_drewN | apply Kd.R_drew));exact Kd.R_mono (rf2_ (Kd.R_types HO_270000.out BK265.out (by decide)) (.slice Ao8 t266.length co8) (.slice Ao30 x270001_1.length co30)) (fun _ hk => trivial),by (with_reducible repeat (first | apply Kd.S_alloc | apply Kd.S_drewN | apply Kd.S_drew));exact Kd.S_mono (Kd.S_far (p:=⟨gb265,1,none⟩) (Kd.S_far (p:=⟨gb265,0,none⟩) (Kd.S_types HO_270001.out BK265.out (by decide)) (fun _ hk => hk.2) (.slice Ao8 t266.length co8)) (fun _ hk => hk.2) (.slice Ao30 x270001_1.length co30)) (fun _ hk => hk.1),by repeat (first | (with_reducible first | exact HB.out | apply below_alloc | apply pw_below_drewN | apply below_drew1 | refine below_set ?_ GE264.out | refine below_set ?_ GE265.out | refine below_set ?_ GE269.out) | exact HB.out)⟩

/-! ### impl_within: function 53 -/
def impl_within.f (a0 : Int) (a1 : Int) (a2 : Int) : Option (Bool):=if a0 ≥ a1 then (some (decide (a0 ≤ a2))) else (some false)
set_option maxHeartbeats 8000000 in
set_option maxRecDepth 100000 in
theorem impl_within.calls (a0 : Int) (a1 : Int) (a2 : Int) (r : Bool) (w : World) (h : impl_within.f a0 a1 a2 = some r) :
  Calls Try.prog 53 #[.int .i64 a0, .int .i64 a1, .int .i64 a2] w fun e w' => e = .returned (.bool r) ∧ Drawn0 w w':=by
 have H : (if a0 ≥ a1 then (some (decide (a0 ≤ a2))) else (some false)) = some r:=h;clear h
 by_cases c4 : a0 ≥ a1
 ·rw [if_pos c4] at H;have c4b0 : decide (a1 ≤ a0) = true:=decide_eq_true c4;clear c4;obtain rfl:=Option.some.inj H
  go_enter Try.func53,Try.ntmps53
  go_wp2
  go_ret
  exact ⟨by first | rfl | (simp;done) | (simp [*];done),by repeat (first | exact Drawn0.refl _ | apply Drawn0.step)⟩
 ·rw [if_neg c4] at H;have c4b0 : decide (a1 ≤ a0) = false:=decide_eq_false c4;clear c4;obtain rfl:=Option.some.inj H
  go_enter Try.func53,Try.ntmps53
  go_wp2
  go_ret
  exact ⟨by first | rfl | (simp;done) | (simp [*];done),by repeat (first | exact Drawn0.refl _ | apply Drawn0.step)⟩

end Go.Proofs.Ytcpoiklimbfppaa.PFnExactBookEarliest
