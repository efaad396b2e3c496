-- Written by a program of this session, over the kit's print (wip/xprint.py)
import Derived.Test.YtcpoiklimbfppaaPFnExactCancelTruckx0
import Derived.Test.YtcpoiklimbfppaaPFnExactCancelTruckx1
import Derived.Test.YtcpoiklimbfppaaPFnExactCancelTruckx2
namespace Go.Proofs.Ytcpoiklimbfppaa.PFnExactCancelTruck
open Go.RowKit Go.Proofs.YtcpoiklimbfppaaW.PrintWords Go.Proofs.YtcpoiklimbfppaaW.PrintLast Go.Proofs.YtcpoiklimbfppaaW.PrintMore
attribute [local go_sem] max2_int min2_int max_two min_two max_three min_three max_four min_four   -- for this text's walks alone
set_option linter.unusedVariables false
set_option linter.unusedSimpArgs false

/-! ### spec_l1Own: function 60 -/
def spec_l1Own.f (l0 : List Int) : Option (List Int):=(some (([] : List Int) : List Int)).bind fun y124 => (if y124.length + l0.length < 17592186044416 then (some (y124 ++ l0)) else (none))
set_option maxHeartbeats 8000000 in
set_option maxRecDepth 100000 in
theorem spec_l1Own.calls (A0 : Option Addr) (c0 : Nat) (l0 : List Int) (r : List Int) (w : World) (hr0 : Kd.C (Kd.int .i64) w A0 l0.length l0) (hc0 : l0.length ≤ c0) (h : spec_l1Own.f l0 = some r) :
  Calls Try.prog 60 #[.slice A0 l0.length c0] w fun e w' => ∃ v0_ : Value,e = .returned (v0_) ∧ Kd.R (Kd.int .i64) 3 w' w.heap.size (fun _ => True) v0_ r ∧ Below w.heap.size w w':=by
 have HR0:=Aside0.mk hr0
 have HC0:=Aside0.mk hc0
 clear hr0 hc0
 have HB:=Aside0.mk (Below.refl w.heap.size w)
 have H : ((some (([] : List Int) : List Int)).bind fun y124 => (if y124.length + l0.length < 17592186044416 then (some (y124 ++ l0)) else (none))) = some r:=h
 clear h
 obtain ⟨y124,hy124⟩ : ∃ y_ : List Int,y_ = (([] : List Int)):=⟨_,rfl⟩
 replace H : (if y124.length + l0.length < 17592186044416 then (some (y124 ++ l0)) else (none)) = some r:=by first | (rw [hy124];with_reducible exact H) | (have H2_:=(Option.bind_some _ _).symm.trans H;rw [hy124];with_reducible exact H2_) | (have H2_:=(Option.bind_some _ _).symm.trans H;with_reducible exact H2_) | with_reducible exact H | (rw [hy124];exact H) | exact H
 have Ny124:=Aside0.mk hy124
 clear hy124
 by_cases c2 : y124.length + l0.length < 17592186044416
 ·rw [if_pos c2] at H
  have LMc2:=Aside0.mk c2
  clear c2
  obtain ⟨y127,hy127⟩ : ∃ y_ : List Int,y_ = (y124 ++ l0):=⟨_,rfl⟩
  replace H : (some y127) = some r:=by first | (rw [hy127];with_reducible exact H) | (have H2_:=(Option.bind_some _ _).symm.trans H;rw [hy127];with_reducible exact H2_) | (have H2_:=(Option.bind_some _ _).symm.trans H;with_reducible exact H2_) | with_reducible exact H | (rw [hy127];exact H) | exact H
  have Ny127:=Aside0.mk hy127
  clear hy127
  obtain rfl:=Option.some.inj H
  go_enter Try.func60,Try.ntmps60
  go_wp2_with (first | ((with_reducible refine gate_dst (N:=3) rfl ?_);refine Kd.R_lit (Kd.int .i64) _ 3 ?hg (N:=3) ?hd (xs:=([] : List Int)) (inner := []) (ok:=fun _ => True) (okp:=fun _ => True) ?hr ?hp (fun _ hk => hk) trivial (Below.refl _ _) (Nat.le_refl _) (by simp) ?_;(case hd => rfl);(case hg => rfl);(case hr => first | (go_simp;done) | (go_simp;rfl));(case hp => exact (Reps.none _ _));intro v125 w3 ho4 hb hg_ hnew_;clear hg_ hnew_;(first | rw [← Ny124.out] at ho4 | (simp only [Int.reduceToNat] at ho4;rw [← Ny124.out] at ho4));have n0_:=Aside0.mk (Kd.R_lower ho4 (below_size (by repeat (first | (with_reducible first | exact HB.out | apply below_alloc | apply pw_below_drewN | apply below_drew1) | exact HB.out))));have n1_:=Aside0.mk (below_step (by repeat (first | (with_reducible first | exact HB.out | apply below_alloc | apply pw_below_drewN | apply below_drew1) | exact HB.out)) hb);clear HB;have HO126:=n0_;have HB:=n1_;clear n0_ n1_;clear hb ho4) | ((with_reducible refine gate_builtin (b := .append) (xs:=#[.tmp 3, .tmp 4]) rfl ?_);at_builtin;refine Kd.R_append_rows (Kd.int .i64) (w0:=w) w.heap.size rfl (.tmp 3) (.tmp 4) 22 3 (.int .i64 0) 8 rfl Try.underlying22 info3 rfl (by decide) (by omega) v125 y124 l0 _ _ _ (fun _ => True) (fun _ => False) rfl rfl ?aO ?aR (fun _ _ h => h) (fun _ h => h.elim) ?aF ?aB ?aS ?aL ?_;(case aR => repeat (first | exact (Kd.C_below HR0.out HB.out) | (with_reducible refine Kd.C_alloc ?_ _) | (with_reducible refine Kd.C_drewN ?_ _) | (with_reducible refine Kd.C_drew ?_)));(case aB => exact (by repeat (first | (with_reducible first | exact HB.out | apply below_alloc | apply pw_below_drewN | apply below_drew1) | exact HB.out)));(case aF => exact (fun _ _ => trivial));(case aO => exact (by (with_reducible repeat (first | apply Kd.R_alloc | apply Kd.R_drewN | apply Kd.R_drew));exact HO126.out));(case aS => exact (below_size (by repeat (first | (with_reducible first | exact HB.out | apply below_alloc | apply pw_below_drewN | apply below_drew1) | exact HB.out))));(case aL => have:=LMc2.out;omega);intro v128 w5 ho hb hg hat;rw [← Ny127.out] at ho;have n0_:=Aside0.mk (hb);have n1_:=Aside0.mk (ho);clear HB;clear HO126;have HB:=n0_;have HO129:=n1_;clear n0_ n1_;clear ho hb hg hat))
  go_ret
  exact ⟨_,by first | rfl | (simp [errW_none,errW_some] <;> rfl) | (simp [*,errW_none,errW_some] <;> rfl),by (with_reducible repeat (first | apply Kd.R_alloc | apply Kd.R_drewN | apply Kd.R_drew));exact HO129.out,by repeat (first | (with_reducible first | exact HB.out | apply below_alloc | apply pw_below_drewN | apply below_drew1) | exact HB.out)⟩
 ·rw [if_neg c2] at H
  exact absurd H (by simp)

/-! ### spec_l18Own: function 45 -/
def spec_l18Own.l0 : Nat → Int → List Int → List (List Int) → List Int → List (List Int) → Option (List Int × (List (List Int)))
 | 0,_,_,_,_,_ => none
 | k + 1,x4,x131000,x131001,x139000,x139001 => if x4 < (x131001.length : Int) then (if 0 ≤ x4 then ((spec_l1Own.f (rd_L1 x131001 x4)).bind fun t140 => (if x139001.length < 5864062014805 then (spec_l18Own.l0 k (wrap64 (x4 + 1)) x131000 x131001 x139000 (x139001 ++ [t140])) else (none))) else (none)) else (some (x139000,x139001))
def spec_l18Own.f (k : Nat) (l0_0 : List Int) (l0_1 : List (List Int)) : Option (List Int × (List (List Int))):=(spec_l1Own.f l0_0).bind fun t132 => (spec_l18Own.l0 k 0 l0_0 l0_1 t132 (([] : List (List Int))))
theorem spec_l18Own.mono_l : ∀ k,(∀ y0 y1 y2 y3 y4,LeO (spec_l18Own.l0 k y0 y1 y2 y3 y4) (spec_l18Own.l0 (k + 1) y0 y1 y2 y3 y4))
 | 0 => fun _ _ _ _ _ r h => by simp [spec_l18Own.l0] at h
 | k + 1 => by
  have ih0:=spec_l18Own.mono_l k
  ·intro y0 y1 y2 y3 y4
   unfold spec_l18Own.l0
   repeat' first
   | (with_reducible exact ih0 _ _ _ _ _)
   | (with_reducible exact LeO.refl _)
   | (with_reducible exact LeO.none _)
   | (with_reducible refine LeO.ite ?_ ?_)
   | (with_reducible refine LeO.bind ?_ (fun _ => ?_))
   | exact ih0 _ _ _ _ _
   | exact LeO.none _
   | refine LeO.ite ?_ ?_
   | refine LeO.bind ?_ (fun _ => ?_)
theorem spec_l18Own.mono : ∀ a0 a1 k,LeO (spec_l18Own.f k a0 a1) (spec_l18Own.f (k + 1) a0 a1):=by
 intro a0 a1 k
 have ih0:=spec_l18Own.mono_l k
 unfold spec_l18Own.f
 repeat' first
   | (with_reducible exact ih0 _ _ _ _ _)
   | (with_reducible exact LeO.refl _)
   | (with_reducible exact LeO.none _)
   | (with_reducible refine LeO.ite ?_ ?_)
   | (with_reducible refine LeO.bind ?_ (fun _ => ?_))
   | exact ih0 _ _ _ _ _
   | exact LeO.none _
   | refine LeO.ite ?_ ?_
   | refine LeO.bind ?_ (fun _ => ?_)
def spec_l18Own.T5 : Bool × List (List Nat × List Nat):=(true,[([],[]),([0],[0]),([],[]),([2],[2]),([],[]),([3,4],[3,4]),([5],[5]),([6],[6]),([7],[7]),([1,8,7],[1,8]),([0,1,2,3,4,5,6,7,8,9],[]),([10,9,9,0,1,2,3,4,5,6,7,8,9],[9,10])])
def spec_l18Own.B5 : List Nat := [0,1,0,4,0,28,60,124,252,511,1023,2047]
theorem spec_l18Own.tab5 : rtab .any (opsOf Try.f45 5) = spec_l18Own.T5:=by kernel_rfl
theorem spec_l18Own.bits5 : waitsOk spec_l18Own.T5.2 spec_l18Own.B5 = true:=by kernel_rfl
set_option maxHeartbeats 8000000 in
set_option maxRecDepth 100000 in
theorem spec_l18Own.calls (k : Nat) (A0_0 : Option Addr) (c0_0 : Nat) (l0_0 : List Int) (A0_1 : Option Addr) (c0_1 : Nat) (l0_1 : List (List Int)) (r1 : List Int) (r2 : List (List Int)) (w : World) (hr0_0 : Kd.C (Kd.int .i64) w A0_0 l0_0.length l0_0) (hc0_0 : l0_0.length ≤ c0_0) (hr0_1 : Kd.C (Kd.slice 3 (Kd.int .i64)) w A0_1 l0_1.length l0_1) (hc0_1 : l0_1.length ≤ c0_1) (h : spec_l18Own.f k l0_0 l0_1 = some (r1,r2)) :
  Calls Try.prog 45 #[.agg #[.slice A0_0 l0_0.length c0_0, .slice A0_1 l0_1.length c0_1]] w fun e w' => ∃ v0_ v1_ : Value,e = .returned (.agg #[v0_,v1_]) ∧ Kd.R (Kd.int .i64) 3 w' w.heap.size (fun _ => True) v0_ r1 ∧ Kd.S (Kd.slice 3 (Kd.int .i64)) 22 w' w.heap.size (fun k_ => some k_ ≠ (v0_ : Value).ownBlock) v1_ r2 ∧ Below w.heap.size w w':=by
 have hu27:=Try.underlying27
 have HR0_0:=Aside0.mk hr0_0
 have HC0_0:=Aside0.mk hc0_0
 clear hr0_0 hc0_0
 have HR0_1:=Aside0.mk hr0_1
 have HC0_1:=Aside0.mk hc0_1
 clear hr0_1 hc0_1
 have HB:=Aside0.mk (Below.refl w.heap.size w)
 have H : ((spec_l1Own.f l0_0).bind fun t132 => (spec_l18Own.l0 k 0 l0_0 l0_1 t132 (([] : List (List Int))))) = some (r1,r2):=h
 clear h
 replace H:=Option.bind_eq_some_iff.mp H
 obtain ⟨t132,A20,H⟩ := H
 replace H : (spec_l18Own.l0 k 0 l0_0 l0_1 t132 (([] : List (List Int)))) = some (r1,r2):=H
 have A2:=Aside0.mk A20
 clear A20
 obtain ⟨y135,hy135⟩ : ∃ y_ : List (List Int),y_ = (([] : List (List Int))):=⟨_,rfl⟩
 replace H : (spec_l18Own.l0 k 0 l0_0 l0_1 t132 y135) = some (r1,r2):=by first | (rw [hy135];with_reducible exact H) | (have H2_:=(Option.bind_some _ _).symm.trans H;rw [hy135];with_reducible exact H2_) | (have H2_:=(Option.bind_some _ _).symm.trans H;with_reducible exact H2_) | with_reducible exact H | (rw [hy135];exact H) | exact H
 have Ny135:=Aside0.mk hy135
 clear hy135
 have H':=Aside0.mk H
 clear H
 go_enter Try.func45,Try.ntmps45
 go_wp2_with (first | ((with_reducible refine gate_dst (N:=1) rfl ?_);refine box_event ?hg (N:=1) ?hd (cs:=#[.slice A0_0 l0_0.length c0_0, .slice A0_1 l0_1.length c0_1]) (t:=27) ?hr ?_;(case hd => rfl);(case hg => rfl);(case hr => first | (go_simp;done) | (go_simp;rfl));intro gb130 hg w3 hbox hb;have n0_:=Aside0.mk (below_step (by repeat (first | (with_reducible first | exact HB.out | apply below_alloc | apply pw_below_drewN | apply below_drew1) | exact HB.out)) hb);have n1_:=Aside0.mk (hbox);have n2_:=Aside0.mk ((by rw [hg];exact (below_size (by repeat (first | (with_reducible first | exact HB.out | apply below_alloc | apply pw_below_drewN | apply below_drew1) | exact HB.out))) : w.heap.size ≤ gb130));have n3_:=Aside0.mk ((by rw [hg];exact (below_size (by repeat (first | (with_reducible first | exact HB.out | apply below_alloc | apply pw_below_drewN | apply below_drew1) | exact HB.out))) : w.heap.size ≤ gb130));clear HB;have HB:=n0_;have BK130:=n1_;have GW130:=n2_;have GE130:=n3_;clear n0_ n1_ n2_ n3_;clear hb hbox hg) | ((with_reducible refine gate_dst (N:=2) rfl ?_);refine box_event ?hg (N:=2) ?hd (cs:=#[.slice none 0 0, .slice none 0 0]) (t:=27) ?hr ?_;(case hd => rfl);(case hg => rfl);(case hr => first | (go_simp;done) | (go_simp;rfl));intro gb131 hg w4 hbox hb;have n0_:=Aside0.mk (blk_below (g:=gb130) (o := .cells #[.slice A0_0 l0_0.length c0_0, .slice A0_1 l0_1.length c0_1] 27 (0,0)) (by (with_reducible repeat (first | refine blk_drewN ?_ _ | refine blk_drew ?_ | refine blk_alloc ?_ _));exact BK130.out) hb);have n1_:=Aside0.mk (below_step (by repeat (first | (with_reducible first | exact HB.out | apply below_alloc | apply pw_below_drewN | apply below_drew1 | refine below_set ?_ GE130.out) | exact HB.out)) hb);have n2_:=Aside0.mk (hbox);have n3_:=Aside0.mk ((by rw [hg];exact (below_size (by repeat (first | (with_reducible first | exact HB.out | apply below_alloc | apply pw_below_drewN | apply below_drew1 | refine below_set ?_ GE130.out) | exact HB.out))) : w.heap.size ≤ gb131));have n4_:=Aside0.mk ((by rw [hg];exact (below_size (by repeat (first | (with_reducible first | exact HB.out | apply below_alloc | apply pw_below_drewN | apply below_drew1 | refine below_set ?_ GE130.out) | exact HB.out))) : w.heap.size ≤ gb131));have n5_:=Aside0.mk ((by rw [hg];exact Nat.ne_of_lt (blk_lt (g:=gb130) (o := .cells #[.slice A0_0 l0_0.length c0_0, .slice A0_1 l0_1.length c0_1] 27 (0,0)) (by (with_reducible repeat (first | refine blk_drewN ?_ _ | refine blk_drew ?_ | refine blk_alloc ?_ _));exact BK130.out)) : gb130 ≠ gb131));have n6_:=Aside0.mk ((by rw [hg];exact Nat.ne_of_gt (blk_lt (g:=gb130) (o := .cells #[.slice A0_0 l0_0.length c0_0, .slice A0_1 l0_1.length c0_1] 27 (0,0)) (by (with_reducible repeat (first | refine blk_drewN ?_ _ | refine blk_drew ?_ | refine blk_alloc ?_ _));exact BK130.out)) : gb131 ≠ gb130));clear BK130;clear HB;have BK130:=n0_;have HB:=n1_;have BK131:=n2_;have GW131:=n3_;have GE131:=n4_;have NB130_131:=n5_;have NB131_130:=n6_;clear n0_ n1_ n2_ n3_ n4_ n5_ n6_;clear hb hbox hg;have hnb5:=NB130_131.out;have hnc5:=NB131_130.out;have hcz6_0 : w4.cell? ⟨gb130,0,none⟩ = some (.slice A0_0 l0_0.length c0_0):=(blk_cell BK130.out 0).trans rfl;have hcz6_1 : w4.cell? ⟨gb130,1,none⟩ = some (.slice A0_1 l0_1.length c0_1):=(blk_cell BK130.out 1).trans rfl;have hfz6_0:=blk_frozen BK130.out 0;have hfz6_1:=blk_frozen BK130.out 1) | ((with_reducible refine gate_callee (f:=60) rfl ?_);refine goesL_ (some 7) rfl rfl Try.func60 (by kernel_rfl) rfl #[.slice A0_0 l0_0.length c0_0] rfl (by (try simp only [List.map_toArray,List.map_cons,List.map_nil]);first | done | rfl | (simp only [List.length_drop,List.length_take];rfl)) ?_;(with_reducible refine (spec_l1Own.calls _ _ l0_0 t132 _ ?side1 ?side2 A2.out).mono ?_);(case side1 => repeat (first | exact (Kd.C_below HR0_0.out HB.out) | (with_reducible refine Kd.C_alloc ?_ _) | (with_reducible refine Kd.C_drewN ?_ _) | (with_reducible refine Kd.C_drew ?_)));(case side2 => exact HC0_0.out);rintro e w7 ⟨v133,rfl,ho0,hb⟩;refine ⟨_,rfl, ?_⟩;have n0_:=Aside0.mk (Kd.R_lower ho0 (below_size (by repeat (first | (with_reducible first | exact HB.out | apply below_alloc | apply pw_below_drewN | apply below_drew1 | refine below_set ?_ GE130.out | refine below_set ?_ GE131.out) | exact HB.out))));have n1_:=Aside0.mk (blk_below (g:=gb130) (o := .cells #[.slice A0_0 l0_0.length c0_0, .slice A0_1 l0_1.length c0_1] 27 (0,0)) (by (with_reducible repeat (first | refine blk_drewN ?_ _ | refine blk_drew ?_ | refine blk_alloc ?_ _));exact BK130.out) hb);have n2_:=Aside0.mk (blk_below (g:=gb131) (o := .cells #[.slice none 0 0, .slice none 0 0] 27 (0,0)) (by (with_reducible repeat (first | refine blk_drewN ?_ _ | refine blk_drew ?_ | refine blk_alloc ?_ _));exact BK131.out) hb);have n3_:=Aside0.mk (below_step (by repeat (first | (with_reducible first | exact HB.out | apply below_alloc | apply pw_below_drewN | apply below_drew1 | refine below_set ?_ GE130.out | refine below_set ?_ GE131.out) | exact HB.out)) hb);clear BK130;clear BK131;clear HB;have HO134:=n0_;have BK130:=n1_;have BK131:=n2_;have HB:=n3_;clear n0_ n1_ n2_ n3_;(try clear hb);(try clear hb2);(try clear hk);(try clear hi);(try clear ho0)) | ((with_reducible refine gate_dst (N:=8) rfl ?_);refine Kd.S_lit (Kd.slice 3 (Kd.int .i64)) _ 22 ?hg (N:=8) ?hd (xs:=([] : List (List Int))) (inner := []) (ok:=fun _ => True) (okp:=fun _ => True) ?hr ?hp (fun _ hk => hk) trivial (Below.refl _ _) (Nat.le_refl _) (by simp) ?_;(case hd => rfl);(case hg => rfl);(case hr => first | (go_simp;done) | (go_simp;rfl));(case hp => exact (Reps.none _ _));intro v136 w8 ho9 hb hg_ hnew_;clear hg_ hnew_;(first | rw [← Ny135.out] at ho9 | (simp only [Int.reduceToNat] at ho9;rw [← Ny135.out] at ho9));have n0_:=Aside0.mk (Kd.R_below (by (with_reducible repeat (first | apply Kd.R_alloc | apply Kd.R_drewN | apply Kd.R_drew));exact HO134.out) hb);have n1_:=Aside0.mk (Kd.S_lower (Kd.S_new' ho9 (Kd.R_lt (by (with_reducible repeat (first | apply Kd.R_alloc | apply Kd.R_drewN | apply Kd.R_drew));exact HO134.out))) (below_size (by repeat (first | (with_reducible first | exact HB.out | apply below_alloc | apply pw_below_drewN | apply below_drew1 | refine below_set ?_ GE130.out | refine below_set ?_ GE131.out) | exact HB.out))));have n2_:=Aside0.mk (blk_below (g:=gb130) (o := .cells #[.slice A0_0 l0_0.length c0_0, .slice A0_1 l0_1.length c0_1] 27 (0,0)) (by (with_reducible repeat (first | refine blk_drewN ?_ _ | refine blk_drew ?_ | refine blk_alloc ?_ _));exact BK130.out) hb);have n3_:=Aside0.mk (blk_below (g:=gb131) (o := .cells #[.slice none 0 0, .slice none 0 0] 27 (0,0)) (by (with_reducible repeat (first | refine blk_drewN ?_ _ | refine blk_drew ?_ | refine blk_alloc ?_ _));exact BK131.out) hb);have n4_:=Aside0.mk (below_step (by repeat (first | (with_reducible first | exact HB.out | apply below_alloc | apply pw_below_drewN | apply below_drew1 | refine below_set ?_ GE130.out | refine below_set ?_ GE131.out) | exact HB.out)) hb);clear HO134;clear BK130;clear BK131;clear HB;have HO134:=n0_;have HO137:=n1_;have BK130:=n2_;have BK131:=n3_;have HB:=n4_;clear n0_ n1_ n2_ n3_ n4_;clear hb ho9;obtain ⟨Ao10,co10,eo10⟩ := Kd.S_slice HO137.out;subst eo10;obtain ⟨Ao11,co11,eo11⟩ := Kd.R_slice HO134.out;subst eo11) | ((with_reducible refine gate_dst (N:=3) rfl ?_);refine box_event ?hg (N:=3) ?hd (cs:=#[.slice none 0 0, .slice none 0 0]) (t:=27) ?hr ?_;(case hd => rfl);(case hg => rfl);(case hr => first | (go_simp;done) | (go_simp;rfl));intro gb138 hg w12 hbox hb;have n0_:=Aside0.mk (Kd.R_below (by (with_reducible repeat (first | apply Kd.R_alloc | apply Kd.R_drewN | apply Kd.R_drew));exact HO134.out) hb);have n1_:=Aside0.mk (Kd.S_below (by (with_reducible repeat (first | apply Kd.S_alloc | apply Kd.S_drewN | apply Kd.S_drew));exact HO137.out) hb);have n2_:=Aside0.mk (blk_below (g:=gb130) (o := .cells #[.slice A0_0 l0_0.length c0_0, .slice A0_1 l0_1.length c0_1] 27 (0,0)) (by (with_reducible repeat (first | refine blk_drewN ?_ _ | refine blk_drew ?_ | refine blk_alloc ?_ _));exact BK130.out) hb);have n3_:=Aside0.mk (blk_below (g:=gb131) (o := .cells #[.slice none 0 0, .slice none 0 0] 27 (0,0)) (by (with_reducible repeat (first | refine blk_drewN ?_ _ | refine blk_drew ?_ | refine blk_alloc ?_ _));exact BK131.out) hb);have n4_:=Aside0.mk (below_step (by repeat (first | (with_reducible first | exact HB.out | apply below_alloc | apply pw_below_drewN | apply below_drew1 | refine below_set ?_ GE130.out | refine below_set ?_ GE131.out) | exact HB.out)) hb);have n5_:=Aside0.mk (hbox);have n6_:=Aside0.mk ((by rw [hg];exact (below_size (by repeat (first | (with_reducible first | exact HB.out | apply below_alloc | apply pw_below_drewN | apply below_drew1 | refine below_set ?_ GE130.out | refine below_set ?_ GE131.out) | exact HB.out))) : w.heap.size ≤ gb138));have n7_:=Aside0.mk ((by rw [hg];exact (below_size (by repeat (first | (with_reducible first | exact HB.out | apply below_alloc | apply pw_below_drewN | apply below_drew1 | refine below_set ?_ GE130.out | refine below_set ?_ GE131.out) | exact HB.out))) : w.heap.size ≤ gb138));have n8_:=Aside0.mk ((by rw [hg];exact Nat.ne_of_lt (blk_lt (g:=gb130) (o := .cells #[.slice A0_0 l0_0.length c0_0, .slice A0_1 l0_1.length c0_1] 27 (0,0)) (by (with_reducible repeat (first | refine blk_drewN ?_ _ | refine blk_drew ?_ | refine blk_alloc ?_ _));exact BK130.out)) : gb130 ≠ gb138));have n9_:=Aside0.mk ((by rw [hg];exact Nat.ne_of_gt (blk_lt (g:=gb130) (o := .cells #[.slice A0_0 l0_0.length c0_0, .slice A0_1 l0_1.length c0_1] 27 (0,0)) (by (with_reducible repeat (first | refine blk_drewN ?_ _ | refine blk_drew ?_ | refine blk_alloc ?_ _));exact BK130.out)) : gb138 ≠ gb130));have n10_:=Aside0.mk ((by rw [hg];exact Nat.ne_of_lt (blk_lt (g:=gb131) (o := .cells #[.slice none 0 0, .slice none 0 0] 27 (0,0)) (by (with_reducible repeat (first | refine blk_drewN ?_ _ | refine blk_drew ?_ | refine blk_alloc ?_ _));exact BK131.out)) : gb131 ≠ gb138));have n11_:=Aside0.mk ((by rw [hg];exact Nat.ne_of_gt (blk_lt (g:=gb131) (o := .cells #[.slice none 0 0, .slice none 0 0] 27 (0,0)) (by (with_reducible repeat (first | refine blk_drewN ?_ _ | refine blk_drew ?_ | refine blk_alloc ?_ _));exact BK131.out)) : gb138 ≠ gb131));clear HO134;clear HO137;clear BK130;clear BK131;clear HB;have HO134:=n0_;have HO137:=n1_;have BK130:=n2_;have BK131:=n3_;have HB:=n4_;have BK138:=n5_;have GW138:=n6_;have GE138:=n7_;have NB130_138:=n8_;have NB138_130:=n9_;have NB131_138:=n10_;have NB138_131:=n11_;clear n0_ n1_ n2_ n3_ n4_ n5_ n6_ n7_ n8_ n9_ n10_ n11_;clear hb hbox hg;have hnb13:=NB138_130.out;have hnc13:=NB130_138.out;have hnb14:=NB138_131.out;have hnc14:=NB131_138.out;have hcz15_0 : w12.cell? ⟨gb138,0,none⟩ = some (.slice none 0 0):=(blk_cell BK138.out 0).trans rfl;have hcz15_1 : w12.cell? ⟨gb138,1,none⟩ = some (.slice none 0 0):=(blk_cell BK138.out 1).trans rfl;have hfz15_0:=blk_frozen BK138.out 0;have hfz15_1:=blk_frozen BK138.out 1))
 go_loopg [4] k (fun kq v4 w' => ∃ (x4_1 : Int) (x139001_1 : List (List Int)) (u139001 : Value),v4 = .int .i64 x4_1 ∧ Aside0 (spec_l18Own.l0 kq x4_1 l0_0 l0_1 t132 x139001_1 = some (r1,r2)) ∧ Aside0 (kq ≤ k) ∧ Aside0 (Kd.R (Kd.int .i64) 3 w' w.heap.size (fun _ => True) (.slice Ao11 t132.length co11) t132) ∧ Aside0 (Kd.S (Kd.slice 3 (Kd.int .i64)) 22 w' w.heap.size (fun k_ => some k_ ≠ ((.slice Ao11 t132.length co11) : Value).ownBlock) u139001 x139001_1) ∧ Aside0 (w'.heap[gb130]? = some (.cells #[(.slice A0_0 l0_0.length c0_0),(.slice A0_1 l0_1.length c0_1)] 27 (0,0))) ∧ Aside0 (w'.heap[gb131]? = some (.cells #[(.slice none 0 0),(.slice none 0 0)] 27 (0,0))) ∧ Aside0 (w'.heap[gb138]? = some (.cells #[(.slice Ao11 t132.length co11),u139001] 27 (0,0))) ∧ Aside0 (Below w.heap.size w w'))
 case atStart => exact ⟨(0),(y135),(.slice Ao10 y135.length co10),(by first | rfl | (simp;done) | (simp [*];done)),H',⟨Nat.le_refl _⟩,⟨by (with_reducible repeat (first | apply Kd.R_alloc | apply Kd.R_drewN | apply Kd.R_drew));exact Kd.R_mono (Kd.R_far (p:=⟨gb138,1,none⟩) (Kd.R_far (p:=⟨gb138,0,none⟩) (Kd.R_types HO134.out BK138.out (by decide)) (fun _ hk => hk.2) (.slice Ao11 t132.length co11)) (fun _ hk => hk.2) (.slice Ao10 y135.length co10)) (fun _ hk => trivial)⟩,⟨by (with_reducible repeat (first | apply Kd.S_alloc | apply Kd.S_drewN | apply Kd.S_drew));exact Kd.S_mono (Kd.S_far (p:=⟨gb138,1,none⟩) (Kd.S_far (p:=⟨gb138,0,none⟩) (Kd.S_types HO137.out BK138.out (by decide)) (fun _ hk => hk.2) (.slice Ao11 t132.length co11)) (fun _ hk => hk.2) (.slice Ao10 y135.length co10)) (fun _ hk => hk.1.2)⟩,⟨by (with_reducible repeat (first | refine blk_drewN ?_ _ | refine blk_drew ?_ | refine blk_alloc ?_ _));refine blk_far ?_ NB130_138.out _;(with_reducible repeat (first | refine blk_drewN ?_ _ | refine blk_drew ?_ | refine blk_alloc ?_ _));refine blk_far ?_ NB130_138.out _;(with_reducible repeat (first | refine blk_drewN ?_ _ | refine blk_drew ?_ | refine blk_alloc ?_ _));exact BK130.out⟩,⟨by (with_reducible repeat (first | refine blk_drewN ?_ _ | refine blk_drew ?_ | refine blk_alloc ?_ _));refine blk_far ?_ NB131_138.out _;(with_reducible repeat (first | refine blk_drewN ?_ _ | refine blk_drew ?_ | refine blk_alloc ?_ _));refine blk_far ?_ NB131_138.out _;(with_reducible repeat (first | refine blk_drewN ?_ _ | refine blk_drew ?_ | refine blk_alloc ?_ _));exact BK131.out⟩,⟨by (with_reducible repeat (first | refine blk_drewN ?_ _ | refine blk_drew ?_ | refine blk_alloc ?_ _));refine blk_put (cs:=#[.slice Ao11 t132.length co11, .slice none 0 0]) ?_ 1 _ rfl;(with_reducible repeat (first | refine blk_drewN ?_ _ | refine blk_drew ?_ | refine blk_alloc ?_ _));refine blk_put (cs:=#[.slice none 0 0, .slice none 0 0]) ?_ 0 _ rfl;(with_reducible repeat (first | refine blk_drewN ?_ _ | refine blk_drew ?_ | refine blk_alloc ?_ _));exact BK138.out⟩,⟨by repeat (first | (with_reducible first | exact HB.out | apply below_alloc | apply pw_below_drewN | apply below_drew1 | refine below_set ?_ GE130.out | refine below_set ?_ GE131.out | refine below_set ?_ GE138.out) | exact HB.out)⟩⟩
 case round =>
  clear H'
  try clear c1
  try clear p2
  try clear c4
  try clear c5
  try clear c6
  try clear c13
  try clear c14
  try clear hcz15_0
  try clear hcz15_1
  try clear hcz6_0
  try clear hcz6_1
  try clear hfz15_0
  try clear hfz15_1
  try clear hfz6_0
  try clear hfz6_1
  obtain ⟨x4_1,x139001_1,u139001,rfl,HA,HK1,HO_139000,HO_139001,BK130,BK131,BK138,HB⟩ := hrel
  cases gk with
  | zero => exact absurd HA.out (by simp [spec_l18Own.l0])
  | succ k1 =>
   have H:=HA.out
   clear HA
   simp only [spec_l18Own.l0] at H
   by_cases c16 : x4_1 < (l0_1.length : Int)
   ·rw [if_pos c16] at H
    have c16b0 : decide (x4_1 < (l0_1.length : Int)) = true:=decide_eq_true c16
    clear c16
    by_cases c17 : 0 ≤ x4_1
    ·rw [if_pos c17] at H
     have c17b0 : decide (0 ≤ x4_1) = true:=decide_eq_true c17
     clear c17
     replace H:=Option.bind_eq_some_iff.mp H
     obtain ⟨t140,A180,H⟩ := H
     replace H : (if x139001_1.length < 5864062014805 then (spec_l18Own.l0 k1 (wrap64 (x4_1 + 1)) l0_0 l0_1 t132 (x139001_1 ++ [t140])) else (none)) = some (r1,r2):=H
     have A18:=Aside0.mk A180
     clear A180
     by_cases c19 : x139001_1.length < 5864062014805
     ·rw [if_pos c19] at H
      have LMc19:=Aside0.mk c19
      clear c19
      obtain ⟨y143,hy143⟩ : ∃ y_ : List (List Int),y_ = (x139001_1 ++ [t140]):=⟨_,rfl⟩
      replace H : (spec_l18Own.l0 k1 (wrap64 (x4_1 + 1)) l0_0 l0_1 t132 y143) = some (r1,r2):=by first | (rw [hy143];with_reducible exact H) | (have H2_:=(Option.bind_some _ _).symm.trans H;rw [hy143];with_reducible exact H2_) | (have H2_:=(Option.bind_some _ _).symm.trans H;with_reducible exact H2_) | with_reducible exact H | (rw [hy143];exact H) | exact H
      have Ny143:=Aside0.mk hy143
      clear hy143
      have H':=Aside0.mk H
      clear H
      have hnb20:=NB130_131.out
      have hnc20:=NB131_130.out
      have hnb21:=NB130_138.out
      have hnc21:=NB138_130.out
      have hcz22_0 : wr.cell? ⟨gb130,0,none⟩ = some (.slice A0_0 l0_0.length c0_0):=(blk_cell BK130.out 0).trans rfl
      have hcz22_1 : wr.cell? ⟨gb130,1,none⟩ = some (.slice A0_1 l0_1.length c0_1):=(blk_cell BK130.out 1).trans rfl
      have hfz22_0:=blk_frozen BK130.out 0
      have hfz22_1:=blk_frozen BK130.out 1
      try go_wp2
      have n0_:=Aside0.mk (Kd.R_drew HO_139000.out)
      have n1_:=Aside0.mk (Kd.S_drew HO_139001.out)
      have n2_:=Aside0.mk (blk_drew BK130.out)
      have n3_:=Aside0.mk (blk_drew BK131.out)
      have n4_:=Aside0.mk (blk_drew BK138.out)
      have n5_:=Aside0.mk (below_drew1 HB.out)
      clear HO_139000
      clear HO_139001
      clear BK130
      clear BK131
      clear BK138
      clear HB
      have HO_139000:=n0_
      have HO_139001:=n1_
      have BK130:=n2_
      have BK131:=n3_
      have BK138:=n4_
      have HB:=n5_
      clear n0_ n1_ n2_ n3_ n4_ n5_
      have p139 : 0 ≤ (x4_1 : Int):=of_decide_eq_true (by first | (with_reducible assumption) | assumption)
      have q139 : x4_1 < (l0_1.length : Int):=of_decide_eq_true (by first | (with_reducible assumption) | assumption)
      obtain ⟨ad139,A139_0,c139_0,e139,hx139_0,hl139_0,hi139_0⟩ := at_L1 HR0_1.out x4_1 p139 q139
      have hw139_0:=hx139_0
      cases e139
      replace hx139_0:=(HB.out.cell (World.block_lt_of_cell? w _ hx139_0)).trans hx139_0
      have HR139_0:=Aside0.mk hi139_0
      have HC139_0:=Aside0.mk hl139_0
      clear hi139_0 hl139_0
      replace p139:=eq_true p139
      replace q139:=eq_true q139
      refine start_ (n:=12) (S:=fun w' => w'.cell? ⟨gb138,0,none⟩ = some (.slice Ao11 t132.length co11) ∧ w'.cell? ⟨gb138,1,none⟩ = some (u139001) ∧ w'.cell? ⟨gb130,0,none⟩ = some (.slice A0_0 l0_0.length c0_0) ∧ w'.cell? ⟨gb130,1,none⟩ = some (.slice (some ad139) l0_1.length c0_1) ∧ w'.cell? (ad139.add (x4_1).toNat) = some (.slice A139_0 (rd_L1 l0_1 x4_1).length c139_0)) (ds := [11]) #[false,false,false,false,false,false,false,false,false,false,false,false] (by kernel_rfl) rfl rfl ⟨(blk_cell BK138.out 0).trans rfl,(blk_cell BK138.out 1).trans rfl,(blk_cell BK130.out 0).trans rfl,(blk_cell BK130.out 1).trans rfl,((HB.out.cell (World.block_lt_of_cell? w _ hw139_0)).trans hw139_0)⟩ (fun hHeld => ?_);refine with_tabW spec_l18Own.tab5 spec_l18Own.bits5 (fun HT_ HW_ => ?_)
      generalize wr.drew = w23 at HO_139000 HO_139001 BK130 BK131 BK138 HB HR139_0 hx139_0 hHeld ⊢
      refine pure_ (i:=0) (N:=some 17) (v:=?_) (a':=?_) #[true,false,false,false,false,false,false,false,false,false,false,false] rfl rfl (any_of HT_.out (by kernel_rfl)) (fun _ _ _ h => h) (Or.inl ⟨by rfl, ?_⟩) ?_ ?_
      rotate_left
      ·intro w'
       go_simp
       with_reducible rfl
      rotate_left
      ·simp only [Act.put,sA_,s0_,s1_,i64_w,i32_w]
       rfl
      refine pure_ (i:=2) (N:=some 19) (v:=?_) (a':=?_) #[true,false,true,false,false,false,false,false,false,false,false,false] rfl rfl (any_of HT_.out (by kernel_rfl)) (fun _ _ _ h => h) (Or.inl ⟨by rfl, ?_⟩) ?_ ?_
      rotate_left
      ·intro w'
       go_simp
       with_reducible rfl
      rotate_left
      ·simp only [Act.put,sA_,s0_,s1_,i64_w,i32_w]
       rfl
      refine pure_ (i:=4) (N:=some 21) (v:=?_) (a':=?_) #[true,false,true,false,true,false,false,false,false,false,false,false] rfl rfl (any_of HT_.out (by kernel_rfl)) (fun _ _ _ h => h) (Or.inl ⟨by rfl, ?_⟩) ?_ ?_
      rotate_left
      ·intro w'
       go_simp
       with_reducible rfl
      rotate_left
      ·simp only [Act.put,sA_,s0_,s1_,i64_w,i32_w]
       rfl
      refine take_ (i:=1) (N:=some 18) (v:=?_) (a':=?_) #[true,true,true,false,true,false,false,false,false,false,false,false] rfl rfl (take_ofW HT_.out HW_.out (by kernel_rfl)) (fun _ _ _ h => h) (Or.inl ⟨by rfl, ?_⟩) hHeld ?_ ?_
      rotate_left
      ·rintro w' ⟨s0,s1,s2,s3,s4⟩
       go_simp
       with_reducible rfl
      rotate_left
      ·simp only [Act.put,sA_,s0_,s1_,i64_w,i32_w]
       rfl
      refine take_ (i:=3) (N:=some 20) (v:=?_) (a':=?_) #[true,true,true,true,true,false,false,false,false,false,false,false] rfl rfl (take_ofW HT_.out HW_.out (by kernel_rfl)) (fun _ _ _ h => h) (Or.inl ⟨by rfl, ?_⟩) hHeld ?_ ?_
      rotate_left
      ·rintro w' ⟨s0,s1,s2,s3,s4⟩
       go_simp
       with_reducible rfl
      rotate_left
      ·simp only [Act.put,sA_,s0_,s1_,i64_w,i32_w]
       rfl
      refine pure_ (i:=5) (N:=some 22) (v:=?_) (a':=?_) #[true,true,true,true,true,true,false,false,false,false,false,false] rfl rfl (any_of HT_.out (by kernel_rfl)) (fun _ _ _ h => h) (Or.inl ⟨by rfl, ?_⟩) ?_ ?_
      rotate_left
      ·intro w'
       go_simp
       with_reducible rfl
      rotate_left
      ·simp only [Act.put,sA_,s0_,s1_,i64_w,i32_w]
       rfl
      refine take_ (i:=6) (N:=some 23) (v:=?_) (a':=?_) #[true,true,true,true,true,true,true,false,false,false,false,false] rfl rfl (take_ofW HT_.out HW_.out (by kernel_rfl)) (fun _ _ _ h => h) (Or.inl ⟨by rfl, ?_⟩) hHeld ?_ ?_
      rotate_left
      ·rintro w' ⟨s0,s1,s2,s3,s4⟩
       go_simp
       with_reducible rfl
      rotate_left
      ·simp only [Act.put,sA_,s0_,s1_,i64_w,i32_w]
       rfl
      refine one_ (i:=7) (N:=some 24) #[true,true,true,true,true,true,true,true,false,false,false,false] rfl rfl (one_of HT_.out (by kernel_rfl)) (by decide) (fun K hK => ?_)
      refine goes_ Try.func60 (by kernel_rfl) rfl #[.slice A139_0 (rd_L1 l0_1 x4_1).length c139_0] (by rfl) rfl rfl (by (try simp only [List.map_toArray,List.map_cons,List.map_nil]);first | done | rfl | (simp only [List.length_drop,List.length_take];rfl)) ?_
      with_reducible refine (spec_l1Own.calls _ _ (rd_L1 l0_1 x4_1) t140 _ ?side1 ?side2 A18.out).mono ?_
      (case side1 => repeat (first | exact (Kd.C_below HR139_0.out HB.out) | (with_reducible refine Kd.C_alloc ?_ _) | (with_reducible refine Kd.C_drewN ?_ _) | (with_reducible refine Kd.C_drew ?_)))
      (case side2 => exact HC139_0.out)
      rintro e w24 ⟨v141,rfl,ho0,hb⟩
      refine ⟨_,rfl, ?_⟩
      have n0_:=Aside0.mk (Kd.R_elder' (by (with_reducible repeat (first | apply Kd.R_alloc | apply Kd.R_drewN | apply Kd.R_drew));exact HO_139000.out) (Kd.R_base ho0) hb)
      have n1_:=Aside0.mk (Kd.S_elder' (by (with_reducible repeat (first | apply Kd.S_alloc | apply Kd.S_drewN | apply Kd.S_drew));exact HO_139001.out) (Kd.R_base ho0) hb)
      have n2_:=Aside0.mk (Kd.R_lower (Kd.R_new' ho0 (Kd.R_lt (by (with_reducible repeat (first | apply Kd.R_alloc | apply Kd.R_drewN | apply Kd.R_drew));exact HO_139000.out))) (below_size (by repeat (first | (with_reducible first | exact HB.out | apply below_alloc | apply pw_below_drewN | apply below_drew1 | refine below_set ?_ GE130.out | refine below_set ?_ GE131.out | refine below_set ?_ GE138.out) | exact HB.out))))
      have n3_:=Aside0.mk (blk_below (g:=gb130) (o := .cells #[.slice A0_0 l0_0.length c0_0, .slice (some ad139) l0_1.length c0_1] 27 (0,0)) (by (with_reducible repeat (first | refine blk_drewN ?_ _ | refine blk_drew ?_ | refine blk_alloc ?_ _));exact BK130.out) hb)
      have n4_:=Aside0.mk (blk_below (g:=gb131) (o := .cells #[.slice none 0 0, .slice none 0 0] 27 (0,0)) (by (with_reducible repeat (first | refine blk_drewN ?_ _ | refine blk_drew ?_ | refine blk_alloc ?_ _));exact BK131.out) hb)
      have n5_:=Aside0.mk (blk_below (g:=gb138) (o := .cells #[.slice Ao11 t132.length co11,u139001] 27 (0,0)) (by (with_reducible repeat (first | refine blk_drewN ?_ _ | refine blk_drew ?_ | refine blk_alloc ?_ _));exact BK138.out) hb)
      have n6_:=Aside0.mk (below_step (by repeat (first | (with_reducible first | exact HB.out | apply below_alloc | apply pw_below_drewN | apply below_drew1 | refine below_set ?_ GE130.out | refine below_set ?_ GE131.out | refine below_set ?_ GE138.out) | exact HB.out)) hb)
      clear HO_139000
      clear HO_139001
      clear BK130
      clear BK131
      clear BK138
      clear HB
      have HO_139000:=n0_
      have HO_139001:=n1_
      have HO142:=n2_
      have BK130:=n3_
      have BK131:=n4_
      have BK138:=n5_
      have HB:=n6_
      clear n0_ n1_ n2_ n3_ n4_ n5_ n6_
      (try clear hb)
      (try clear hb2)
      (try clear hk)
      (try clear hi)
      (try clear ho0)
      obtain ⟨Ao26,co26,eo26⟩ := Kd.R_slice HO142.out
      (first | subst eo26 | (injection eo26 with f1_ f2_ f3_;have f4_:=f1_.symm;have f5_:=f3_.symm;clear f1_ f2_ f3_;subst f4_;subst f5_))
      refine hK.out _ _ ⟨(blk_cell BK138.out 0).trans rfl,(blk_cell BK138.out 1).trans rfl,(blk_cell BK130.out 0).trans rfl,(blk_cell BK130.out 1).trans rfl,((HB.out.cell (World.block_lt_of_cell? w _ hw139_0)).trans hw139_0)⟩ (fun hHeld => ?_)
      clear hK K
      refine norm_ (a':=?_) ?_ ?_
      rotate_left
      ·show Act.put _ (some 24) _ = _
       simp only [Act.put,sA_,s0_,s1_,i64_w,i32_w]
       rfl
      refine one_ (i:=8) (N:=some 25) #[true,true,true,true,true,true,true,true,true,false,false,false] rfl rfl (one_of HT_.out (by kernel_rfl)) (by decide) (fun K hK => ?_)
      refine value_ (w1:=?_) (v:=?_) (by rfl) rfl ?_ ?_
      rotate_left 2
      ·go_simp
       constructor
       ·rfl
       ·rfl
      refine hK.out _ _ ⟨(blk_cell (blk_alloc BK138.out _) 0).trans rfl,(blk_cell (blk_alloc BK138.out _) 1).trans rfl,(blk_cell (blk_alloc BK130.out _) 0).trans rfl,(blk_cell (blk_alloc BK130.out _) 1).trans rfl,(World.cell?_alloc_lt _ _ _ (World.block_lt_of_cell? _ _ (((HB.out.cell (World.block_lt_of_cell? w _ hw139_0)).trans hw139_0)))).trans (((HB.out.cell (World.block_lt_of_cell? w _ hw139_0)).trans hw139_0))⟩ (fun hHeld => ?_)
      clear hK K
      refine norm_ (a':=?_) ?_ ?_
      rotate_left
      ·show Act.put _ (some 25) _ = _
       simp only [Act.put,sA_,s0_,s1_,i64_w,i32_w]
       rfl
      refine one_ (i:=9) (N:=some 26) #[true,true,true,true,true,true,true,true,true,true,false,false] rfl rfl (one_of HT_.out (by kernel_rfl)) (by decide) (fun K hK => ?_)
      refine Kd.S_append_step (Kd.slice 3 (Kd.int .i64)) (w0:=w) w.heap.size (by rfl) (.tmp 18) (.tmp 25) 23 22 (.slice none 0 0) 24 rfl Try.underlying23 info22 rfl (by decide) (by omega) u139001 x139001_1 t140 [.slice Ao26 t140.length co26] (fun k_ => some k_ ≠ (.slice Ao11 t132.length co11 : Value).ownBlock) (fun k_ => some k_ = (.slice Ao26 t140.length co26 : Value).ownBlock) rfl rfl ?aP (fun k_ hk_ => ((Kd.R_mono (ok':=fun k_ => ((fun k_ => some k_ ≠ (.slice Ao11 t132.length co11 : Value).ownBlock)) k_ ∧ some k_ ≠ (u139001 : Value).ownBlock) (Kd.R_apart' (HO142.out) (Kd.S_typed HO_139001.out) (by decide)) (fun k_ hk => ⟨hk.1.2,hk.2⟩))).1 k_ hk_.symm) ?aF ?aO ?aB ?aS ?aL ?_
      (case aP => exact Kd.M_row (Kd.R_mono (Kd.R_tight rfl (Kd.R_mono (ok':=fun k_ => ((fun k_ => some k_ ≠ (.slice Ao11 t132.length co11 : Value).ownBlock)) k_ ∧ some k_ ≠ (u139001 : Value).ownBlock) (Kd.R_apart' (HO142.out) (Kd.S_typed HO_139001.out) (by decide)) (fun k_ hk => ⟨hk.1.2,hk.2⟩))) (fun _ h_ => h_)))
      (case aB => exact (by repeat (first | (with_reducible first | exact HB.out | apply below_alloc | apply pw_below_drewN | apply below_drew1 | refine below_set ?_ GE130.out | refine below_set ?_ GE131.out | refine below_set ?_ GE138.out) | exact HB.out)))
      (case aF => exact (fun k_ hk => Kd.fresh' (Kd.R_lt (by (with_reducible repeat (first | apply Kd.R_alloc | apply Kd.R_drewN | apply Kd.R_drew));exact HO_139000.out)) k_ hk))
      (case aO => exact (by (with_reducible repeat (first | apply Kd.S_alloc | apply Kd.S_drewN | apply Kd.S_drew));exact Kd.S_mono HO_139001.out (fun k_ hk => ⟨hk.1,fun e_ => hk.2 e_⟩)))
      (case aS => exact (below_size (by repeat (first | (with_reducible first | exact HB.out | apply below_alloc | apply pw_below_drewN | apply below_drew1 | refine below_set ?_ GE130.out | refine below_set ?_ GE131.out | refine below_set ?_ GE138.out) | exact HB.out))))
      (case aL => have:=LMc19.out;omega)
      intro v144 w25 ho hb hg hat
      rw [← Ny143.out] at ho
      have n0_:=Aside0.mk (Kd.R_over' (by (with_reducible repeat (first | apply Kd.R_alloc | apply Kd.R_drewN | apply Kd.R_drew));exact HO_139000.out) (Kd.S_typed (by (with_reducible repeat (first | apply Kd.S_alloc | apply Kd.S_drewN | apply Kd.S_drew));exact HO_139001.out)) (by decide) hg)
      have n1_:=Aside0.mk (blk_grown (g:=gb130) (o := .cells #[.slice A0_0 l0_0.length c0_0, .slice (some ad139) l0_1.length c0_1] 27 (0,0)) (by (with_reducible repeat (first | refine blk_drewN ?_ _ | refine blk_drew ?_ | refine blk_alloc ?_ _));exact BK130.out) hg (Kd.S_ne HO_139001.out BK130.out (by decide)))
      have n2_:=Aside0.mk (blk_grown (g:=gb131) (o := .cells #[.slice none 0 0, .slice none 0 0] 27 (0,0)) (by (with_reducible repeat (first | refine blk_drewN ?_ _ | refine blk_drew ?_ | refine blk_alloc ?_ _));exact BK131.out) hg (Kd.S_ne HO_139001.out BK131.out (by decide)))
      have n3_:=Aside0.mk (blk_grown (g:=gb138) (o := .cells #[.slice Ao11 t132.length co11,u139001] 27 (0,0)) (by (with_reducible repeat (first | refine blk_drewN ?_ _ | refine blk_drew ?_ | refine blk_alloc ?_ _));exact BK138.out) hg (Kd.S_ne HO_139001.out BK138.out (by decide)))
      have n4_:=Aside0.mk (hb)
      have n5_:=Aside0.mk (ho)
      clear HO_139000
      clear BK130
      clear BK131
      clear BK138
      clear HB
      clear HO_139001
      clear HO142
      have HO_139000:=n0_
      have BK130:=n1_
      have BK131:=n2_
      have BK138:=n3_
      have HB:=n4_
      have HO145:=n5_
      clear n0_ n1_ n2_ n3_ n4_ n5_
      clear ho hb hg hat
      obtain ⟨Ao27,co27,eo27⟩ := Kd.S_slice HO145.out
      (first | subst eo27 | (injection eo27 with f1_ f2_ f3_;have f4_:=f1_.symm;have f5_:=f3_.symm;clear f1_ f2_ f3_;subst f4_;subst f5_))
      refine hK.out _ _ ⟨(blk_cell BK138.out 0).trans rfl,(blk_cell BK138.out 1).trans rfl,(blk_cell BK130.out 0).trans rfl,(blk_cell BK130.out 1).trans rfl,((HB.out.cell (World.block_lt_of_cell? w _ hw139_0)).trans hw139_0)⟩ (fun hHeld => ?_)
      clear hK K
      refine norm_ (a':=?_) ?_ ?_
      rotate_left
      ·show Act.put _ (some 26) _ = _
       simp only [Act.put,sA_,s0_,s1_,i64_w,i32_w]
       rfl
      refine pure_ (i:=10) (N:=some 27) (v:=?_) (a':=?_) #[true,true,true,true,true,true,true,true,true,true,true,false] rfl rfl (any_of HT_.out (by kernel_rfl)) (fun _ _ _ h => h) (Or.inl ⟨by rfl, ?_⟩) ?_ ?_
      rotate_left
      ·intro w'
       go_simp
       with_reducible rfl
      rotate_left
      ·simp only [Act.put,sA_,s0_,s1_,i64_w,i32_w]
       rfl
      refine last_ (i:=11) (N:=none) #[true,true,true,true,true,true,true,true,true,true,true,true] rfl rfl (one_of HT_.out (by kernel_rfl)) (by decide) (fun K hK => ?_)
      have hs28 : w25.cell? ⟨gb138,1,none⟩ = some (u139001):=(blk_cell BK138.out 1).trans rfl
      have hfs28:=blk_frozen BK138.out 1
      have hns28_0:=NB130_138.out
      have hns28_1:=NB131_138.out
      have hms28_0:=NB138_130.out
      have hms28_1:=NB138_131.out
      refine skip_ (w1:=?_) (by rfl) rfl ?_ ?_
      rotate_left
      ·go_simp
       rfl
      refine hK.out _ _ ?_
      clear hK K
      refine done_ (done_of HT_.out (by kernel_rfl)) ?_
      try go_wp2
      go_roundg k1
      case measure => have:=HK1.out;omega
      case rel => exact ⟨(wrap64 (x4_1 + 1)),(y143),(.slice Ao27 y143.length co27),(by first | rfl | (simp;done) | (simp [*];done)),H',⟨by have:=HK1.out;omega⟩,⟨by (with_reducible repeat (first | apply Kd.R_alloc | apply Kd.R_drewN | apply Kd.R_drew));exact Kd.R_mono (Kd.R_far (p:=⟨gb138,1,none⟩) (Kd.R_types HO_139000.out BK138.out (by decide)) (fun _ hk => hk.2) (.slice Ao27 y143.length co27)) (fun _ hk => trivial)⟩,⟨by (with_reducible repeat (first | apply Kd.S_alloc | apply Kd.S_drewN | apply Kd.S_drew));exact Kd.S_mono (Kd.S_far (p:=⟨gb138,1,none⟩) (Kd.S_types HO145.out BK138.out (by decide)) (fun _ hk => hk.2) (.slice Ao27 y143.length co27)) (fun _ hk => hk.1)⟩,⟨by (with_reducible repeat (first | refine blk_drewN ?_ _ | refine blk_drew ?_ | refine blk_alloc ?_ _));refine blk_far ?_ NB130_138.out _;(with_reducible repeat (first | refine blk_drewN ?_ _ | refine blk_drew ?_ | refine blk_alloc ?_ _));exact BK130.out⟩,⟨by (with_reducible repeat (first | refine blk_drewN ?_ _ | refine blk_drew ?_ | refine blk_alloc ?_ _));refine blk_far ?_ NB131_138.out _;(with_reducible repeat (first | refine blk_drewN ?_ _ | refine blk_drew ?_ | refine blk_alloc ?_ _));exact BK131.out⟩,⟨by (with_reducible repeat (first | refine blk_drewN ?_ _ | refine blk_drew ?_ | refine blk_alloc ?_ _));refine blk_put (cs:=#[.slice Ao11 t132.length co11,u139001]) ?_ 1 _ rfl;(with_reducible repeat (first | refine blk_drewN ?_ _ | refine blk_drew ?_ | refine blk_alloc ?_ _));exact BK138.out⟩,⟨by repeat (first | (with_reducible first | exact HB.out | apply below_alloc | apply pw_below_drewN | apply below_drew1 | refine below_set ?_ GE130.out | refine below_set ?_ GE131.out | refine below_set ?_ GE138.out) | exact HB.out)⟩⟩
     ·rw [if_neg c19] at H
      exact absurd H (by simp)
    ·rw [if_neg c17] at H
     exact absurd H (by simp)
   ·rw [if_neg c16] at H
    have c16b0 : decide (x4_1 < (l0_1.length : Int)) = false:=decide_eq_false c16
    clear c16
    simp only [Option.some.injEq,Prod.mk.injEq] at H
    obtain ⟨rfl,rfl⟩ := H
    have hnb29:=NB130_131.out
    have hnc29:=NB131_130.out
    have hnb30:=NB130_138.out
    have hnc30:=NB138_130.out
    have hcz31_0 : wr.cell? ⟨gb130,0,none⟩ = some (.slice A0_0 l0_0.length c0_0):=(blk_cell BK130.out 0).trans rfl
    have hcz31_1 : wr.cell? ⟨gb130,1,none⟩ = some (.slice A0_1 l0_1.length c0_1):=(blk_cell BK130.out 1).trans rfl
    have hfz31_0:=blk_frozen BK130.out 0
    have hfz31_1:=blk_frozen BK130.out 1
    have hnb32:=NB138_131.out
    have hnc32:=NB131_138.out
    have hcz33_0 : wr.cell? ⟨gb138,0,none⟩ = some (.slice Ao11 t132.length co11):=(blk_cell BK138.out 0).trans rfl
    have hcz33_1 : wr.cell? ⟨gb138,1,none⟩ = some (u139001):=(blk_cell BK138.out 1).trans rfl
    have hfz33_0:=blk_frozen BK138.out 0
    have hfz33_1:=blk_frozen BK138.out 1
    have hcz34_0 : wr.cell? ⟨gb131,0,none⟩ = some (.slice none 0 0):=(blk_cell BK131.out 0).trans rfl
    have hcz34_1 : wr.cell? ⟨gb131,1,none⟩ = some (.slice none 0 0):=(blk_cell BK131.out 1).trans rfl
    have hfz34_0:=blk_frozen BK131.out 0
    have hfz34_1:=blk_frozen BK131.out 1
    obtain ⟨Ao35,co35,eo35⟩ := Kd.S_slice HO_139001.out
    subst eo35
    go_wp2
    refine bodyPost_ret (results_cell_row rfl _ _ gb131 27 #[.slice Ao11 t132.length co11, .slice Ao35 x139001_1.length co35] (0,0) _ rfl ?hblk_ Try.underlying27 rfl (by kernel_rfl)) rfl ?_
    case hblk_ => (with_reducible repeat (first | refine blk_drewN ?_ _ | refine blk_drew ?_ | refine blk_alloc ?_ _));refine blk_put (cs:=#[.slice Ao11 t132.length co11, .slice none 0 0]) ?_ 1 _ rfl;(with_reducible repeat (first | refine blk_drewN ?_ _ | refine blk_drew ?_ | refine blk_alloc ?_ _));refine blk_put (cs:=#[.slice none 0 0, .slice none 0 0]) ?_ 0 _ rfl;(with_reducible repeat (first | refine blk_drewN ?_ _ | refine blk_drew ?_ | refine blk_alloc ?_ _));exact BK131.out
    exact ⟨_,_,by first | rfl | (simp [errW_none,errW_some] <;> rfl) | (simp [*,errW_none,errW_some] <;> rfl),by (with_reducible repeat (first | apply Kd.R_alloc | apply Kd.R_drewN | apply Kd.R_drew));exact Kd.R_mono (Kd.R_far (p:=⟨gb131,1,none⟩) (Kd.R_far (p:=⟨gb131,0,none⟩) (Kd.R_types HO_139000.out BK131.out (by decide)) (fun _ hk => hk.2) (.slice Ao11 t132.length co11)) (fun _ hk => hk.2) (.slice Ao35 x139001_1.length co35)) (fun _ hk => trivial),by (with_reducible repeat (first | apply Kd.S_alloc | apply Kd.S_drewN | apply Kd.S_drew));exact Kd.S_mono (Kd.S_far (p:=⟨gb131,1,none⟩) (Kd.S_far (p:=⟨gb131,0,none⟩) (Kd.S_types HO_139001.out BK131.out (by decide)) (fun _ hk => hk.2) (.slice Ao11 t132.length co11)) (fun _ hk => hk.2) (.slice Ao35 x139001_1.length co35)) (fun _ hk => hk.1),by repeat (first | (with_reducible first | exact HB.out | apply below_alloc | apply pw_below_drewN | apply below_drew1 | refine below_set ?_ GE130.out | refine below_set ?_ GE131.out | refine below_set ?_ GE138.out) | exact HB.out)⟩

/-! ### spec_l18Cancel: function 30 -/
def spec_l18Cancel.l0 : Nat → Int → Int → List Int → Int → List Int → List (List Int) → Option (List Int × (List (List Int)))
 | 0,_,_,_,_,_,_ => none
 | k + 1,x1,x6,x7,x8,x155000,x155001 => if 0 ≤ x6 then (if x6 < (x155001.length : Int) then (if x8 < ((rd_L1 x155001 x6).length : Int) then (if 0 ≤ x8 then (if (rd (rd_L1 x155001 x6) x8) = x1 then (spec_l18Cancel.l0 k x1 x6 x7 (wrap64 (x8 + 1)) x155000 x155001) else (if x7.length < 17592186044416 then (spec_l18Cancel.l0 k x1 x6 (x7 ++ [rd (rd_L1 x155001 x6) x8]) (wrap64 (x8 + 1)) x155000 x155001) else (none))) else (none)) else (some (x155000,(x155001.set (x6 : Int).toNat x7)))) else (none)) else (none)
def spec_l18Cancel.f (k : Nat) (l0_0 : List Int) (l0_1 : List (List Int)) (a1 : Int) : Option (List Int × (List (List Int))):=(spec_l18Own.f k l0_0 l0_1).bind fun bt148 => ((spec_l18Find.f k l0_0 l0_1 a1).bind fun t155 => (spec_l18Cancel.l0 k a1 t155 (([] : List Int)) 0 bt148.1 bt148.2))
theorem spec_l18Cancel.mono_l : ∀ k,(∀ y0 y1 y2 y3 y4 y5,LeO (spec_l18Cancel.l0 k y0 y1 y2 y3 y4 y5) (spec_l18Cancel.l0 (k + 1) y0 y1 y2 y3 y4 y5))
 | 0 => fun _ _ _ _ _ _ r h => by simp [spec_l18Cancel.l0] at h
 | k + 1 => by
  have ih0:=spec_l18Cancel.mono_l k
  ·intro y0 y1 y2 y3 y4 y5
   unfold spec_l18Cancel.l0
   repeat' first
   | (with_reducible exact ih0 _ _ _ _ _ _)
   | (with_reducible exact spec_l18Find.mono _ _ _ _)
   | (with_reducible exact spec_l18Own.mono _ _ _)
   | (with_reducible exact LeO.refl _)
   | (with_reducible exact LeO.none _)
   | (with_reducible refine LeO.ite ?_ ?_)
   | (with_reducible refine LeO.bind ?_ (fun _ => ?_))
   | exact ih0 _ _ _ _ _ _
   | exact spec_l18Find.mono _ _ _ _
   | exact spec_l18Own.mono _ _ _
   | exact LeO.none _
   | refine LeO.ite ?_ ?_
   | refine LeO.bind ?_ (fun _ => ?_)
theorem spec_l18Cancel.mono : ∀ a0 a1 a2 k,LeO (spec_l18Cancel.f k a0 a1 a2) (spec_l18Cancel.f (k + 1) a0 a1 a2):=by
 intro a0 a1 a2 k
 have ih0:=spec_l18Cancel.mono_l k
 unfold spec_l18Cancel.f
 repeat' first
   | (with_reducible exact ih0 _ _ _ _ _ _)
   | (with_reducible exact spec_l18Find.mono _ _ _ _)
   | (with_reducible exact spec_l18Own.mono _ _ _)
   | (with_reducible exact LeO.refl _)
   | (with_reducible exact LeO.none _)
   | (with_reducible refine LeO.ite ?_ ?_)
   | (with_reducible refine LeO.bind ?_ (fun _ => ?_))
   | exact ih0 _ _ _ _ _ _
   | exact spec_l18Find.mono _ _ _ _
   | exact spec_l18Own.mono _ _ _
   | exact LeO.none _
   | refine LeO.ite ?_ ?_
   | refine LeO.bind ?_ (fun _ => ?_)
set_option maxHeartbeats 8000000 in
set_option maxRecDepth 100000 in
theorem spec_l18Cancel.calls (k : Nat) (A0_0 : Option Addr) (c0_0 : Nat) (l0_0 : List Int) (A0_1 : Option Addr) (c0_1 : Nat) (l0_1 : List (List Int)) (a1 : Int) (r1 : List Int) (r2 : List (List Int)) (w : World) (hr0_0 : Kd.C (Kd.int .i64) w A0_0 l0_0.length l0_0) (hc0_0 : l0_0.length ≤ c0_0) (hr0_1 : Kd.C (Kd.slice 3 (Kd.int .i64)) w A0_1 l0_1.length l0_1) (hc0_1 : l0_1.length ≤ c0_1) (h : spec_l18Cancel.f k l0_0 l0_1 a1 = some (r1,r2)) :
  Calls Try.prog 30 #[.agg #[.slice A0_0 l0_0.length c0_0, .slice A0_1 l0_1.length c0_1], .int .i64 a1] w fun e w' => ∃ v0_ v1_ : Value,e = .returned (.agg #[v0_,v1_]) ∧ Kd.R (Kd.int .i64) 3 w' w.heap.size (fun _ => True) v0_ r1 ∧ Kd.S (Kd.slice 3 (Kd.int .i64)) 22 w' w.heap.size (fun k_ => some k_ ≠ (v0_ : Value).ownBlock) v1_ r2 ∧ Below w.heap.size w w':=by
 have hu27:=Try.underlying27
 have HR0_0:=Aside0.mk hr0_0
 have HC0_0:=Aside0.mk hc0_0
 clear hr0_0 hc0_0
 have HR0_1:=Aside0.mk hr0_1
 have HC0_1:=Aside0.mk hc0_1
 clear hr0_1 hc0_1
 have HB:=Aside0.mk (Below.refl w.heap.size w)
 have H : ((spec_l18Own.f k l0_0 l0_1).bind fun bt148 => ((spec_l18Find.f k l0_0 l0_1 a1).bind fun t155 => (spec_l18Cancel.l0 k a1 t155 (([] : List Int)) 0 bt148.1 bt148.2))) = some (r1,r2):=h
 clear h
 replace H:=Option.bind_eq_some_iff.mp H
 obtain ⟨⟨t148,t151⟩,A30,H⟩ := H
 replace H : ((spec_l18Find.f k l0_0 l0_1 a1).bind fun t155 => (spec_l18Cancel.l0 k a1 t155 (([] : List Int)) 0 t148 t151)) = some (r1,r2):=H
 have A3:=Aside0.mk A30
 clear A30
 replace H:=Option.bind_eq_some_iff.mp H
 obtain ⟨t155,A40,H⟩ := H
 replace H : (spec_l18Cancel.l0 k a1 t155 (([] : List Int)) 0 t148 t151) = some (r1,r2):=H
 have A4:=Aside0.mk A40
 clear A40
 obtain ⟨y156,hy156⟩ : ∃ y_ : List Int,y_ = (([] : List Int)):=⟨_,rfl⟩
 replace H : (spec_l18Cancel.l0 k a1 t155 y156 0 t148 t151) = some (r1,r2):=by first | (rw [hy156];with_reducible exact H) | (have H2_:=(Option.bind_some _ _).symm.trans H;rw [hy156];with_reducible exact H2_) | (have H2_:=(Option.bind_some _ _).symm.trans H;with_reducible exact H2_) | with_reducible exact H | (rw [hy156];exact H) | exact H
 have Ny156:=Aside0.mk hy156
 clear hy156
 have H':=Aside0.mk H
 clear H
 go_enter Try.func30,Try.ntmps30
 go_wp2_with (first | ((with_reducible refine gate_dst (N:=2) rfl ?_);refine box_event ?hg (N:=2) ?hd (cs:=#[.slice A0_0 l0_0.length c0_0, .slice A0_1 l0_1.length c0_1]) (t:=27) ?hr ?_;(case hd => rfl);(case hg => rfl);(case hr => first | (go_simp;done) | (go_simp;rfl));intro gb146 hg w5 hbox hb;have n0_:=Aside0.mk (below_step (by repeat (first | (with_reducible first | exact HB.out | apply below_alloc | apply pw_below_drewN | apply below_drew1) | exact HB.out)) hb);have n1_:=Aside0.mk (hbox);have n2_:=Aside0.mk ((by rw [hg];exact (below_size (by repeat (first | (with_reducible first | exact HB.out | apply below_alloc | apply pw_below_drewN | apply below_drew1) | exact HB.out))) : w.heap.size ≤ gb146));have n3_:=Aside0.mk ((by rw [hg];exact (below_size (by repeat (first | (with_reducible first | exact HB.out | apply below_alloc | apply pw_below_drewN | apply below_drew1) | exact HB.out))) : w.heap.size ≤ gb146));clear HB;have HB:=n0_;have BK146:=n1_;have GW146:=n2_;have GE146:=n3_;clear n0_ n1_ n2_ n3_;clear hb hbox hg) | ((with_reducible refine gate_dst (N:=4) rfl ?_);refine box_event ?hg (N:=4) ?hd (cs:=#[.slice none 0 0, .slice none 0 0]) (t:=27) ?hr ?_;(case hd => rfl);(case hg => rfl);(case hr => first | (go_simp;done) | (go_simp;rfl));intro gb147 hg w6 hbox hb;have n0_:=Aside0.mk (blk_below (g:=gb146) (o := .cells #[.slice A0_0 l0_0.length c0_0, .slice A0_1 l0_1.length c0_1] 27 (0,0)) (by (with_reducible repeat (first | refine blk_drewN ?_ _ | refine blk_drew ?_ | refine blk_alloc ?_ _));exact BK146.out) hb);have n1_:=Aside0.mk (below_step (by repeat (first | (with_reducible first | exact HB.out | apply below_alloc | apply pw_below_drewN | apply below_drew1 | refine below_set ?_ GE146.out) | exact HB.out)) hb);have n2_:=Aside0.mk (hbox);have n3_:=Aside0.mk ((by rw [hg];exact (below_size (by repeat (first | (with_reducible first | exact HB.out | apply below_alloc | apply pw_below_drewN | apply below_drew1 | refine below_set ?_ GE146.out) | exact HB.out))) : w.heap.size ≤ gb147));have n4_:=Aside0.mk ((by rw [hg];exact (below_size (by repeat (first | (with_reducible first | exact HB.out | apply below_alloc | apply pw_below_drewN | apply below_drew1 | refine below_set ?_ GE146.out) | exact HB.out))) : w.heap.size ≤ gb147));have n5_:=Aside0.mk ((by rw [hg];exact Nat.ne_of_lt (blk_lt (g:=gb146) (o := .cells #[.slice A0_0 l0_0.length c0_0, .slice A0_1 l0_1.length c0_1] 27 (0,0)) (by (with_reducible repeat (first | refine blk_drewN ?_ _ | refine blk_drew ?_ | refine blk_alloc ?_ _));exact BK146.out)) : gb146 ≠ gb147));have n6_:=Aside0.mk ((by rw [hg];exact Nat.ne_of_gt (blk_lt (g:=gb146) (o := .cells #[.slice A0_0 l0_0.length c0_0, .slice A0_1 l0_1.length c0_1] 27 (0,0)) (by (with_reducible repeat (first | refine blk_drewN ?_ _ | refine blk_drew ?_ | refine blk_alloc ?_ _));exact BK146.out)) : gb147 ≠ gb146));clear BK146;clear HB;have BK146:=n0_;have HB:=n1_;have BK147:=n2_;have GW147:=n3_;have GE147:=n4_;have NB146_147:=n5_;have NB147_146:=n6_;clear n0_ n1_ n2_ n3_ n4_ n5_ n6_;clear hb hbox hg;have hnb7:=NB146_147.out;have hnc7:=NB147_146.out;have hcz8_0 : w6.cell? ⟨gb146,0,none⟩ = some (.slice A0_0 l0_0.length c0_0):=(blk_cell BK146.out 0).trans rfl;have hcz8_1 : w6.cell? ⟨gb146,1,none⟩ = some (.slice A0_1 l0_1.length c0_1):=(blk_cell BK146.out 1).trans rfl;have hfz8_0:=blk_frozen BK146.out 0;have hfz8_1:=blk_frozen BK146.out 1) | ((with_reducible refine gate_callee (f:=45) rfl ?_);refine goesL_ (some 10) rfl rfl Try.func45 (by kernel_rfl) rfl #[.agg #[.slice A0_0 l0_0.length c0_0, .slice A0_1 l0_1.length c0_1]] rfl (by (try simp only [List.map_toArray,List.map_cons,List.map_nil]);first | done | rfl | (simp only [List.length_drop,List.length_take];rfl)) ?_;(with_reducible refine (spec_l18Own.calls k _ _ l0_0 _ _ l0_1 t148 t151 _ ?side1 ?side2 ?side3 ?side4 A3.out).mono ?_);(case side1 => repeat (first | exact (Kd.C_below HR0_0.out HB.out) | (with_reducible refine Kd.C_alloc ?_ _) | (with_reducible refine Kd.C_drewN ?_ _) | (with_reducible refine Kd.C_drew ?_)));(case side2 => exact HC0_0.out);(case side3 => repeat (first | exact (Kd.C_below HR0_1.out HB.out) | (with_reducible refine Kd.C_alloc ?_ _) | (with_reducible refine Kd.C_drewN ?_ _) | (with_reducible refine Kd.C_drew ?_)));(case side4 => exact HC0_1.out);rintro e w9 ⟨v149,v152,rfl,ho0,ho1,hb⟩;refine ⟨_,rfl, ?_⟩;have n0_:=Aside0.mk (Kd.R_lower ho0 (below_size (by repeat (first | (with_reducible first | exact HB.out | apply below_alloc | apply pw_below_drewN | apply below_drew1 | refine below_set ?_ GE146.out | refine below_set ?_ GE147.out) | exact HB.out))));have n1_:=Aside0.mk (Kd.S_lower ho1 (below_size (by repeat (first | (with_reducible first | exact HB.out | apply below_alloc | apply pw_below_drewN | apply below_drew1 | refine below_set ?_ GE146.out | refine below_set ?_ GE147.out) | exact HB.out))));have n2_:=Aside0.mk (blk_below (g:=gb146) (o := .cells #[.slice A0_0 l0_0.length c0_0, .slice A0_1 l0_1.length c0_1] 27 (0,0)) (by (with_reducible repeat (first | refine blk_drewN ?_ _ | refine blk_drew ?_ | refine blk_alloc ?_ _));exact BK146.out) hb);have n3_:=Aside0.mk (blk_below (g:=gb147) (o := .cells #[.slice none 0 0, .slice none 0 0] 27 (0,0)) (by (with_reducible repeat (first | refine blk_drewN ?_ _ | refine blk_drew ?_ | refine blk_alloc ?_ _));exact BK147.out) hb);have n4_:=Aside0.mk (below_step (by repeat (first | (with_reducible first | exact HB.out | apply below_alloc | apply pw_below_drewN | apply below_drew1 | refine below_set ?_ GE146.out | refine below_set ?_ GE147.out) | exact HB.out)) hb);clear BK146;clear BK147;clear HB;have HO150:=n0_;have HO153:=n1_;have BK146:=n2_;have BK147:=n3_;have HB:=n4_;clear n0_ n1_ n2_ n3_ n4_;(try clear hb);(try clear hb2);(try clear hk);(try clear hi);(try clear ho0);(try clear ho1)) | ((with_reducible refine gate_dst (N:=5) rfl ?_);refine box_event ?hg (N:=5) ?hd (cs:=#[.slice none 0 0, .slice none 0 0]) (t:=27) ?hr ?_;(case hd => rfl);(case hg => rfl);(case hr => first | (go_simp;done) | (go_simp;rfl));intro gb154 hg w10 hbox hb;have n0_:=Aside0.mk (Kd.R_below (by (with_reducible repeat (first | apply Kd.R_alloc | apply Kd.R_drewN | apply Kd.R_drew));exact HO150.out) hb);have n1_:=Aside0.mk (Kd.S_below (by (with_reducible repeat (first | apply Kd.S_alloc | apply Kd.S_drewN | apply Kd.S_drew));exact HO153.out) hb);have n2_:=Aside0.mk (blk_below (g:=gb146) (o := .cells #[.slice A0_0 l0_0.length c0_0, .slice A0_1 l0_1.length c0_1] 27 (0,0)) (by (with_reducible repeat (first | refine blk_drewN ?_ _ | refine blk_drew ?_ | refine blk_alloc ?_ _));exact BK146.out) hb);have n3_:=Aside0.mk (blk_below (g:=gb147) (o := .cells #[.slice none 0 0, .slice none 0 0] 27 (0,0)) (by (with_reducible repeat (first | refine blk_drewN ?_ _ | refine blk_drew ?_ | refine blk_alloc ?_ _));exact BK147.out) hb);have n4_:=Aside0.mk (below_step (by repeat (first | (with_reducible first | exact HB.out | apply below_alloc | apply pw_below_drewN | apply below_drew1 | refine below_set ?_ GE146.out | refine below_set ?_ GE147.out) | exact HB.out)) hb);have n5_:=Aside0.mk (hbox);have n6_:=Aside0.mk ((by rw [hg];exact (below_size (by repeat (first | (with_reducible first | exact HB.out | apply below_alloc | apply pw_below_drewN | apply below_drew1 | refine below_set ?_ GE146.out | refine below_set ?_ GE147.out) | exact HB.out))) : w.heap.size ≤ gb154));have n7_:=Aside0.mk ((by rw [hg];exact (below_size (by repeat (first | (with_reducible first | exact HB.out | apply below_alloc | apply pw_below_drewN | apply below_drew1 | refine below_set ?_ GE146.out | refine below_set ?_ GE147.out) | exact HB.out))) : w.heap.size ≤ gb154));have n8_:=Aside0.mk ((by rw [hg];exact Nat.ne_of_lt (blk_lt (g:=gb146) (o := .cells #[.slice A0_0 l0_0.length c0_0, .slice A0_1 l0_1.length c0_1] 27 (0,0)) (by (with_reducible repeat (first | refine blk_drewN ?_ _ | refine blk_drew ?_ | refine blk_alloc ?_ _));exact BK146.out)) : gb146 ≠ gb154));have n9_:=Aside0.mk ((by rw [hg];exact Nat.ne_of_gt (blk_lt (g:=gb146) (o := .cells #[.slice A0_0 l0_0.length c0_0, .slice A0_1 l0_1.length c0_1] 27 (0,0)) (by (with_reducible repeat (first | refine blk_drewN ?_ _ | refine blk_drew ?_ | refine blk_alloc ?_ _));exact BK146.out)) : gb154 ≠ gb146));have n10_:=Aside0.mk ((by rw [hg];exact Nat.ne_of_lt (blk_lt (g:=gb147) (o := .cells #[.slice none 0 0, .slice none 0 0] 27 (0,0)) (by (with_reducible repeat (first | refine blk_drewN ?_ _ | refine blk_drew ?_ | refine blk_alloc ?_ _));exact BK147.out)) : gb147 ≠ gb154));have n11_:=Aside0.mk ((by rw [hg];exact Nat.ne_of_gt (blk_lt (g:=gb147) (o := .cells #[.slice none 0 0, .slice none 0 0] 27 (0,0)) (by (with_reducible repeat (first | refine blk_drewN ?_ _ | refine blk_drew ?_ | refine blk_alloc ?_ _));exact BK147.out)) : gb154 ≠ gb147));clear HO150;clear HO153;clear BK146;clear BK147;clear HB;have HO150:=n0_;have HO153:=n1_;have BK146:=n2_;have BK147:=n3_;have HB:=n4_;have BK154:=n5_;have GW154:=n6_;have GE154:=n7_;have NB146_154:=n8_;have NB154_146:=n9_;have NB147_154:=n10_;have NB154_147:=n11_;clear n0_ n1_ n2_ n3_ n4_ n5_ n6_ n7_ n8_ n9_ n10_ n11_;clear hb hbox hg;obtain ⟨Ao11,co11,eo11⟩ := Kd.R_slice HO150.out;subst eo11;have hnb12:=NB154_146.out;have hnc12:=NB146_154.out;have hnb13:=NB154_147.out;have hnc13:=NB147_154.out;have hcz14_0 : w10.cell? ⟨gb154,0,none⟩ = some (.slice none 0 0):=(blk_cell BK154.out 0).trans rfl;have hcz14_1 : w10.cell? ⟨gb154,1,none⟩ = some (.slice none 0 0):=(blk_cell BK154.out 1).trans rfl;have hfz14_0:=blk_frozen BK154.out 0;have hfz14_1:=blk_frozen BK154.out 1;obtain ⟨Ao15,co15,eo15⟩ := Kd.S_slice HO153.out;subst eo15;have hcz16_0 : w10.cell? ⟨gb146,0,none⟩ = some (.slice A0_0 l0_0.length c0_0):=(blk_cell BK146.out 0).trans rfl;have hcz16_1 : w10.cell? ⟨gb146,1,none⟩ = some (.slice A0_1 l0_1.length c0_1):=(blk_cell BK146.out 1).trans rfl;have hfz16_0:=blk_frozen BK146.out 0;have hfz16_1:=blk_frozen BK146.out 1) | ((with_reducible refine gate_callee (f:=29) rfl ?_);refine goesL_ (some 13) rfl rfl Try.func29 (by kernel_rfl) rfl #[.agg #[.slice A0_0 l0_0.length c0_0, .slice A0_1 l0_1.length c0_1], .int .i64 a1] rfl (by (try simp only [List.map_toArray,List.map_cons,List.map_nil]);first | done | rfl | (simp only [List.length_drop,List.length_take];rfl)) ?_;(with_reducible refine (spec_l18Find.calls k _ _ l0_0 _ _ l0_1 a1 t155 _ ?side1 ?side2 ?side3 ?side4 A4.out).mono ?_);(case side1 => exact Kd.C_below HR0_0.out (by repeat (first | (with_reducible first | exact HB.out | apply below_alloc | apply pw_below_drewN | apply below_drew1 | refine below_set ?_ GE146.out | refine below_set ?_ GE147.out | refine below_set ?_ GE154.out) | exact HB.out)));(case side2 => exact HC0_0.out);(case side3 => exact Kd.C_below HR0_1.out (by repeat (first | (with_reducible first | exact HB.out | apply below_alloc | apply pw_below_drewN | apply below_drew1 | refine below_set ?_ GE146.out | refine below_set ?_ GE147.out | refine below_set ?_ GE154.out) | exact HB.out)));(case side4 => exact HC0_1.out);rintro e w17 ⟨rfl,hb⟩;refine ⟨_,rfl, ?_⟩;have n0_:=Aside0.mk (Kd.R_below (by (with_reducible repeat (first | apply Kd.R_alloc | apply Kd.R_drewN | apply Kd.R_drew));exact (Kd.R_mono (Kd.R_far (p:=⟨gb154,1,none⟩) (Kd.R_far (p:=⟨gb154,0,none⟩) (Kd.R_types HO150.out BK154.out (by decide)) (fun _ hk => hk.2) (.slice Ao11 t148.length co11)) (fun _ hk => hk.2) (.slice Ao15 t151.length co15)) (fun _ h_ => h_.1))) hb);have n1_:=Aside0.mk (Kd.S_below (by (with_reducible repeat (first | apply Kd.S_alloc | apply Kd.S_drewN | apply Kd.S_drew));exact (Kd.S_mono (Kd.S_far (p:=⟨gb154,1,none⟩) (Kd.S_far (p:=⟨gb154,0,none⟩) (Kd.S_types HO153.out BK154.out (by decide)) (fun _ hk => hk.2) (.slice Ao11 t148.length co11)) (fun _ hk => hk.2) (.slice Ao15 t151.length co15)) (fun _ h_ => h_.1))) hb);have n2_:=Aside0.mk (blk_below (g:=gb146) (o := .cells #[.slice A0_0 l0_0.length c0_0, .slice A0_1 l0_1.length c0_1] 27 (0,0)) (by (with_reducible repeat (first | refine blk_drewN ?_ _ | refine blk_drew ?_ | refine blk_alloc ?_ _));refine blk_far ?_ NB146_154.out _;(with_reducible repeat (first | refine blk_drewN ?_ _ | refine blk_drew ?_ | refine blk_alloc ?_ _));refine blk_far ?_ NB146_154.out _;(with_reducible repeat (first | refine blk_drewN ?_ _ | refine blk_drew ?_ | refine blk_alloc ?_ _));exact BK146.out) hb);have n3_:=Aside0.mk (blk_below (g:=gb147) (o := .cells #[.slice none 0 0, .slice none 0 0] 27 (0,0)) (by (with_reducible repeat (first | refine blk_drewN ?_ _ | refine blk_drew ?_ | refine blk_alloc ?_ _));refine blk_far ?_ NB147_154.out _;(with_reducible repeat (first | refine blk_drewN ?_ _ | refine blk_drew ?_ | refine blk_alloc ?_ _));refine blk_far ?_ NB147_154.out _;(with_reducible repeat (first | refine blk_drewN ?_ _ | refine blk_drew ?_ | refine blk_alloc ?_ _));exact BK147.out) hb);have n4_:=Aside0.mk (blk_below (g:=gb154) (o := .cells #[.slice Ao11 t148.length co11, .slice Ao15 t151.length co15] 27 (0,0)) (by (with_reducible repeat (first | refine blk_drewN ?_ _ | refine blk_drew ?_ | refine blk_alloc ?_ _));refine blk_put (cs:=#[.slice Ao11 t148.length co11, .slice none 0 0]) ?_ 1 _ rfl;(with_reducible repeat (first | refine blk_drewN ?_ _ | refine blk_drew ?_ | refine blk_alloc ?_ _));refine blk_put (cs:=#[.slice none 0 0, .slice none 0 0]) ?_ 0 _ rfl;(with_reducible repeat (first | refine blk_drewN ?_ _ | refine blk_drew ?_ | refine blk_alloc ?_ _));exact BK154.out) hb);have n5_:=Aside0.mk (below_step (by repeat (first | (with_reducible first | exact HB.out | apply below_alloc | apply pw_below_drewN | apply below_drew1 | refine below_set ?_ GE146.out | refine below_set ?_ GE147.out | refine below_set ?_ GE154.out) | exact HB.out)) hb);clear HO150;clear HO153;clear BK146;clear BK147;clear BK154;clear HB;have HO150:=n0_;have HO153:=n1_;have BK146:=n2_;have BK147:=n3_;have BK154:=n4_;have HB:=n5_;clear n0_ n1_ n2_ n3_ n4_ n5_;(try clear hb);(try clear hb2);(try clear hk);(try clear hi)) | ((with_reducible refine gate_dst (N:=14) rfl ?_);refine Kd.R_lit (Kd.int .i64) _ 3 ?hg (N:=14) ?hd (xs:=([] : List Int)) (inner := []) (ok:=fun _ => True) (okp:=fun _ => True) ?hr ?hp (fun _ hk => hk) trivial (Below.refl _ _) (Nat.le_refl _) (by simp) ?_;(case hd => rfl);(case hg => rfl);(case hr => first | (go_simp;done) | (go_simp;rfl));(case hp => exact (Reps.none _ _));intro v157 w18 ho19 hb hg_ hnew_;clear hg_ hnew_;(first | rw [← Ny156.out] at ho19 | (simp only [Int.reduceToNat] at ho19;rw [← Ny156.out] at ho19));have n0_:=Aside0.mk (Kd.R_elder' (by (with_reducible repeat (first | apply Kd.R_alloc | apply Kd.R_drewN | apply Kd.R_drew));exact HO150.out) (Kd.R_base ho19) hb);have n1_:=Aside0.mk (Kd.S_elder' (by (with_reducible repeat (first | apply Kd.S_alloc | apply Kd.S_drewN | apply Kd.S_drew));exact HO153.out) (Kd.R_base ho19) hb);have n2_:=Aside0.mk (Kd.R_lower (Kd.R_new' ho19 (Kd.R_lt (by (with_reducible repeat (first | apply Kd.R_alloc | apply Kd.R_drewN | apply Kd.R_drew));exact HO150.out))) (below_size (by repeat (first | (with_reducible first | exact HB.out | apply below_alloc | apply pw_below_drewN | apply below_drew1 | refine below_set ?_ GE146.out | refine below_set ?_ GE147.out | refine below_set ?_ GE154.out) | exact HB.out))));have n3_:=Aside0.mk (blk_below (g:=gb146) (o := .cells #[.slice A0_0 l0_0.length c0_0, .slice A0_1 l0_1.length c0_1] 27 (0,0)) (by (with_reducible repeat (first | refine blk_drewN ?_ _ | refine blk_drew ?_ | refine blk_alloc ?_ _));exact BK146.out) hb);have n4_:=Aside0.mk (blk_below (g:=gb147) (o := .cells #[.slice none 0 0, .slice none 0 0] 27 (0,0)) (by (with_reducible repeat (first | refine blk_drewN ?_ _ | refine blk_drew ?_ | refine blk_alloc ?_ _));exact BK147.out) hb);have n5_:=Aside0.mk (blk_below (g:=gb154) (o := .cells #[.slice Ao11 t148.length co11, .slice Ao15 t151.length co15] 27 (0,0)) (by (with_reducible repeat (first | refine blk_drewN ?_ _ | refine blk_drew ?_ | refine blk_alloc ?_ _));exact BK154.out) hb);have n6_:=Aside0.mk (below_step (by repeat (first | (with_reducible first | exact HB.out | apply below_alloc | apply pw_below_drewN | apply below_drew1 | refine below_set ?_ GE146.out | refine below_set ?_ GE147.out | refine below_set ?_ GE154.out) | exact HB.out)) hb);clear HO150;clear HO153;clear BK146;clear BK147;clear BK154;clear HB;have HO150:=n0_;have HO153:=n1_;have HO158:=n2_;have BK146:=n3_;have BK147:=n4_;have BK154:=n5_;have HB:=n6_;clear n0_ n1_ n2_ n3_ n4_ n5_ n6_;clear hb ho19))
 go_loopg [7,8] k (fun kq v7 v8 w' => ∃ (x7_1 : List Int) (x8_1 : Int),v8 = .int .i64 x8_1 ∧ Aside0 (spec_l18Cancel.l0 kq a1 t155 x7_1 x8_1 t148 t151 = some (r1,r2)) ∧ Aside0 (kq ≤ k) ∧ Aside0 (Kd.R (Kd.int .i64) 3 w' w.heap.size (fun k_ => some k_ ≠ ((.slice Ao11 t148.length co11) : Value).ownBlock) v7 x7_1) ∧ Aside0 (Kd.R (Kd.int .i64) 3 w' w.heap.size (fun k_ => some k_ ≠ (v7 : Value).ownBlock) (.slice Ao11 t148.length co11) t148) ∧ Aside0 (Kd.S (Kd.slice 3 (Kd.int .i64)) 22 w' w.heap.size (fun k_ => some k_ ≠ (v7 : Value).ownBlock ∧ some k_ ≠ ((.slice Ao11 t148.length co11) : Value).ownBlock) (.slice Ao15 t151.length co15) t151) ∧ Aside0 (w'.heap[gb146]? = some (.cells #[(.slice A0_0 l0_0.length c0_0),(.slice A0_1 l0_1.length c0_1)] 27 (0,0))) ∧ Aside0 (w'.heap[gb147]? = some (.cells #[(.slice none 0 0),(.slice none 0 0)] 27 (0,0))) ∧ Aside0 (w'.heap[gb154]? = some (.cells #[(.slice Ao11 t148.length co11),(.slice Ao15 t151.length co15)] 27 (0,0))) ∧ Aside0 (Below w.heap.size w w'))
 case atStart => exact ⟨(y156),(0),(by first | rfl | (simp;done) | (simp [*];done)),H',⟨Nat.le_refl _⟩,⟨by (with_reducible repeat (first | apply Kd.R_alloc | apply Kd.R_drewN | apply Kd.R_drew));exact Kd.R_mono HO158.out (fun _ hk => hk.2)⟩,⟨by (with_reducible repeat (first | apply Kd.R_alloc | apply Kd.R_drewN | apply Kd.R_drew));exact Kd.R_mono HO150.out (fun _ hk => hk.2)⟩,⟨by (with_reducible repeat (first | apply Kd.S_alloc | apply Kd.S_drewN | apply Kd.S_drew));exact Kd.S_mono HO153.out (fun _ hk => ⟨hk.2,hk.1⟩)⟩,⟨by (with_reducible repeat (first | refine blk_drewN ?_ _ | refine blk_drew ?_ | refine blk_alloc ?_ _));exact BK146.out⟩,⟨by (with_reducible repeat (first | refine blk_drewN ?_ _ | refine blk_drew ?_ | refine blk_alloc ?_ _));exact BK147.out⟩,⟨by (with_reducible repeat (first | refine blk_drewN ?_ _ | refine blk_drew ?_ | refine blk_alloc ?_ _));exact BK154.out⟩,⟨by repeat (first | (with_reducible first | exact HB.out | apply below_alloc | apply pw_below_drewN | apply below_drew1 | refine below_set ?_ GE146.out | refine below_set ?_ GE147.out | refine below_set ?_ GE154.out) | exact HB.out)⟩⟩
 case round =>
  clear H'
  try clear c1
  try clear c2
  try clear p2
  try clear c3
  try clear c4
  try clear c7
  try clear c12
  try clear c13
  try clear hcz14_0
  try clear hcz14_1
  try clear hcz16_0
  try clear hcz16_1
  try clear hcz8_0
  try clear hcz8_1
  try clear hfz14_0
  try clear hfz14_1
  try clear hfz16_0
  try clear hfz16_1
  try clear hfz8_0
  try clear hfz8_1
  obtain ⟨x7_1,x8_1,rfl,HA,HK1,HO_7,HO_155000,HO_155001,BK146,BK147,BK154,HB⟩ := hrel
  cases gk with
  | zero => exact absurd HA.out (by simp [spec_l18Cancel.l0])
  | succ k1 =>
   have H:=HA.out
   clear HA
   simp only [spec_l18Cancel.l0] at H
   by_cases c20 : 0 ≤ t155
   ·rw [if_pos c20] at H
    have c20b0 : decide (0 ≤ t155) = true:=decide_eq_true c20
    clear c20
    by_cases c21 : t155 < (t151.length : Int)
    ·rw [if_pos c21] at H
     have c21b0 : decide (t155 < (t151.length : Int)) = true:=decide_eq_true c21
     clear c21
     by_cases c22 : x8_1 < ((rd_L1 t151 t155).length : Int)
     ·rw [if_pos c22] at H
      have c22b0 : decide (x8_1 < ((rd_L1 t151 t155).length : Int)) = true:=decide_eq_true c22
      clear c22
      by_cases c23 : 0 ≤ x8_1
      ·rw [if_pos c23] at H
       have c23b0 : decide (0 ≤ x8_1) = true:=decide_eq_true c23
       clear c23
       by_cases c24 : (rd (rd_L1 t151 t155) x8_1) = a1
       ·rw [if_pos c24] at H
        have c24b0 : ((rd (rd_L1 t151 t155) x8_1) == a1) = true:=beq_iff_eq.mpr c24
        have c24b1 : ((rd (rd_L1 t151 t155) x8_1) != a1) = false:=bne_eq_false_iff_eq.mpr c24
        clear c24
        have H':=Aside0.mk H
        clear H
        have hnb25:=NB154_146.out
        have hnc25:=NB146_154.out
        have hnb26:=NB154_147.out
        have hnc26:=NB147_154.out
        have hcz27_0 : wr.cell? ⟨gb154,0,none⟩ = some (.slice Ao11 t148.length co11):=(blk_cell BK154.out 0).trans rfl
        have hcz27_1 : wr.cell? ⟨gb154,1,none⟩ = some (.slice Ao15 t151.length co15):=(blk_cell BK154.out 1).trans rfl
        have hfz27_0:=blk_frozen BK154.out 0
        have hfz27_1:=blk_frozen BK154.out 1
        have p159 : 0 ≤ (t155 : Int):=of_decide_eq_true (by first | (with_reducible assumption) | assumption)
        have q159 : t155 < (t151.length : Int):=of_decide_eq_true (by first | (with_reducible assumption) | assumption)
        obtain ⟨ad159,A159_0,c159_0,e159,hx159_0,hl159_0,hi159_0⟩ := at_L1 (Kd.S_reads' HO_155001.out).2.2 t155 p159 q159
        cases e159
        obtain ⟨ce159,hce159,hMe159,hcc159⟩ := Kd.S_get HO_155001.out [] t155 p159 (by first | exact q159 | exact of_decide_eq_true (by first | (with_reducible assumption) | assumption) | (have e_:=(Kd.S_reads' HO_155001.out).1;omega))
        obtain ⟨ve159_0,rfl,ge159_0⟩ := hMe159
        have hv159_0:=hcc159 0 _ rfl
        rw [Nat.add_zero,show ((Kd.slice 3 (Kd.int .i64))).sz = 1 from rfl,Nat.mul_one] at hv159_0
        replace hv159_0:=Option.some.inj (hv159_0.symm.trans hx159_0)
        rw [hv159_0] at ge159_0
        have HL159_0:=Aside0.mk (show Kd.R (Kd.int .i64) 3 _ _ _ _ (rd_L1 t151 t155) from ge159_0)
        clear hv159_0 ge159_0
        clear hcc159 hce159
        have HR159_0:=Aside0.mk hi159_0
        have HC159_0:=Aside0.mk hl159_0
        clear hi159_0 hl159_0
        replace p159:=eq_true p159
        replace q159:=eq_true q159
        have p160 : 0 ≤ (t155 : Int):=of_decide_eq_true (by first | (with_reducible assumption) | assumption)
        have q160 : t155 < (t151.length : Int):=of_decide_eq_true (by first | (with_reducible assumption) | assumption)
        obtain ⟨ad160,A160_0,c160_0,e160,hx160_0,hl160_0,hi160_0⟩ := at_L1 (Kd.S_reads' HO_155001.out).2.2 t155 p160 q160
        obtain rfl : ad159 = ad160:=(by injection e160)
        obtain ⟨ce160,hce160,hMe160,hcc160⟩ := Kd.S_get HO_155001.out [] t155 p160 (by first | exact q160 | exact of_decide_eq_true (by first | (with_reducible assumption) | assumption) | (have e_:=(Kd.S_reads' HO_155001.out).1;omega))
        obtain ⟨ve160_0,rfl,ge160_0⟩ := hMe160
        have hv160_0:=hcc160 0 _ rfl
        rw [Nat.add_zero,show ((Kd.slice 3 (Kd.int .i64))).sz = 1 from rfl,Nat.mul_one] at hv160_0
        replace hv160_0:=Option.some.inj (hv160_0.symm.trans hx160_0)
        rw [hv160_0] at ge160_0
        have HL160_0:=Aside0.mk (show Kd.R (Kd.int .i64) 3 _ _ _ _ (rd_L1 t151 t155) from ge160_0)
        clear hv160_0 ge160_0
        clear hcc160 hce160
        have HR160_0:=Aside0.mk hi160_0
        have HC160_0:=Aside0.mk hl160_0
        clear hi160_0 hl160_0
        replace p160:=eq_true p160
        replace q160:=eq_true q160
        have ea_:=Option.some.inj (hx159_0.symm.trans hx160_0)
        injection ea_ with ea_ en_ ec_
        subst ea_
        subst ec_
        clear en_
        have p161 : 0 ≤ (x8_1 : Int):=of_decide_eq_true (by first | (with_reducible assumption) | assumption)
        have q161 : x8_1 < ((rd_L1 t151 t155).length : Int):=of_decide_eq_true (by first | (with_reducible assumption) | assumption)
        obtain ⟨ad161,e161,hx161_0⟩ := Kd.at_int (by repeat (first | (with_reducible exact HR160_0.out) | (with_reducible refine Kd.C_alloc ?_ _) | (with_reducible refine Kd.C_drewN ?_ _) | (with_reducible refine Kd.C_drew ?_) | exact HR160_0.out)) x8_1 p161 q161
        cases e161
        replace p161:=eq_true p161
        replace q161:=eq_true q161
        go_wp2
        go_roundg k1
        case measure => have:=HK1.out;omega
        case rel => exact ⟨(x7_1),(wrap64 (x8_1 + 1)),(by first | rfl | (simp;done) | (simp [*];done)),H',⟨by have:=HK1.out;omega⟩,⟨by (with_reducible repeat (first | apply Kd.R_alloc | apply Kd.R_drewN | apply Kd.R_drew));exact HO_7.out⟩,⟨by (with_reducible repeat (first | apply Kd.R_alloc | apply Kd.R_drewN | apply Kd.R_drew));exact HO_155000.out⟩,⟨by (with_reducible repeat (first | apply Kd.S_alloc | apply Kd.S_drewN | apply Kd.S_drew));exact HO_155001.out⟩,⟨by (with_reducible repeat (first | refine blk_drewN ?_ _ | refine blk_drew ?_ | refine blk_alloc ?_ _));exact BK146.out⟩,⟨by (with_reducible repeat (first | refine blk_drewN ?_ _ | refine blk_drew ?_ | refine blk_alloc ?_ _));exact BK147.out⟩,⟨by (with_reducible repeat (first | refine blk_drewN ?_ _ | refine blk_drew ?_ | refine blk_alloc ?_ _));exact BK154.out⟩,⟨by repeat (first | (with_reducible first | exact HB.out | apply below_alloc | apply pw_below_drewN | apply below_drew1 | refine below_set ?_ GE146.out | refine below_set ?_ GE147.out | refine below_set ?_ GE154.out) | exact HB.out)⟩⟩
       ·rw [if_neg c24] at H
        have c24b0 : ((rd (rd_L1 t151 t155) x8_1) == a1) = false:=beq_eq_false_iff_ne.mpr c24
        have c24b1 : ((rd (rd_L1 t151 t155) x8_1) != a1) = true:=bne_iff_ne.mpr c24
        by_cases c28 : x7_1.length < 17592186044416
        ·rw [if_pos c28] at H
         have LMc28:=Aside0.mk c28
         clear c28
         obtain ⟨y164,hy164⟩ : ∃ y_ : List Int,y_ = (x7_1 ++ [rd (rd_L1 t151 t155) x8_1]):=⟨_,rfl⟩
         replace H : (spec_l18Cancel.l0 k1 a1 t155 y164 (wrap64 (x8_1 + 1)) t148 t151) = some (r1,r2):=by first | (rw [hy164];with_reducible exact H) | (have H2_:=(Option.bind_some _ _).symm.trans H;rw [hy164];with_reducible exact H2_) | (have H2_:=(Option.bind_some _ _).symm.trans H;with_reducible exact H2_) | with_reducible exact H | (rw [hy164];exact H) | exact H
         have Ny164:=Aside0.mk hy164
         clear hy164
         have H':=Aside0.mk H
         clear H
         have hnb29:=NB154_146.out
         have hnc29:=NB146_154.out
         have hnb30:=NB154_147.out
         have hnc30:=NB147_154.out
         have hcz31_0 : wr.cell? ⟨gb154,0,none⟩ = some (.slice Ao11 t148.length co11):=(blk_cell BK154.out 0).trans rfl
         have hcz31_1 : wr.cell? ⟨gb154,1,none⟩ = some (.slice Ao15 t151.length co15):=(blk_cell BK154.out 1).trans rfl
         have hfz31_0:=blk_frozen BK154.out 0
         have hfz31_1:=blk_frozen BK154.out 1
         have p159 : 0 ≤ (t155 : Int):=of_decide_eq_true (by first | (with_reducible assumption) | assumption)
         have q159 : t155 < (t151.length : Int):=of_decide_eq_true (by first | (with_reducible assumption) | assumption)
         obtain ⟨ad159,A159_0,c159_0,e159,hx159_0,hl159_0,hi159_0⟩ := at_L1 (Kd.S_reads' HO_155001.out).2.2 t155 p159 q159
         cases e159
         obtain ⟨ce159,hce159,hMe159,hcc159⟩ := Kd.S_get HO_155001.out [] t155 p159 (by first | exact q159 | exact of_decide_eq_true (by first | (with_reducible assumption) | assumption) | (have e_:=(Kd.S_reads' HO_155001.out).1;omega))
         obtain ⟨ve159_0,rfl,ge159_0⟩ := hMe159
         have hv159_0:=hcc159 0 _ rfl
         rw [Nat.add_zero,show ((Kd.slice 3 (Kd.int .i64))).sz = 1 from rfl,Nat.mul_one] at hv159_0
         replace hv159_0:=Option.some.inj (hv159_0.symm.trans hx159_0)
         rw [hv159_0] at ge159_0
         have HL159_0:=Aside0.mk (show Kd.R (Kd.int .i64) 3 _ _ _ _ (rd_L1 t151 t155) from ge159_0)
         clear hv159_0 ge159_0
         clear hcc159 hce159
         have HR159_0:=Aside0.mk hi159_0
         have HC159_0:=Aside0.mk hl159_0
         clear hi159_0 hl159_0
         replace p159:=eq_true p159
         replace q159:=eq_true q159
         have p160 : 0 ≤ (t155 : Int):=of_decide_eq_true (by first | (with_reducible assumption) | assumption)
         have q160 : t155 < (t151.length : Int):=of_decide_eq_true (by first | (with_reducible assumption) | assumption)
         obtain ⟨ad160,A160_0,c160_0,e160,hx160_0,hl160_0,hi160_0⟩ := at_L1 (Kd.S_reads' HO_155001.out).2.2 t155 p160 q160
         obtain rfl : ad159 = ad160:=(by injection e160)
         obtain ⟨ce160,hce160,hMe160,hcc160⟩ := Kd.S_get HO_155001.out [] t155 p160 (by first | exact q160 | exact of_decide_eq_true (by first | (with_reducible assumption) | assumption) | (have e_:=(Kd.S_reads' HO_155001.out).1;omega))
         obtain ⟨ve160_0,rfl,ge160_0⟩ := hMe160
         have hv160_0:=hcc160 0 _ rfl
         rw [Nat.add_zero,show ((Kd.slice 3 (Kd.int .i64))).sz = 1 from rfl,Nat.mul_one] at hv160_0
         replace hv160_0:=Option.some.inj (hv160_0.symm.trans hx160_0)
         rw [hv160_0] at ge160_0
         have HL160_0:=Aside0.mk (show Kd.R (Kd.int .i64) 3 _ _ _ _ (rd_L1 t151 t155) from ge160_0)
         clear hv160_0 ge160_0
         clear hcc160 hce160
         have HR160_0:=Aside0.mk hi160_0
         have HC160_0:=Aside0.mk hl160_0
         clear hi160_0 hl160_0
         replace p160:=eq_true p160
         replace q160:=eq_true q160
         have ea_:=Option.some.inj (hx159_0.symm.trans hx160_0)
         injection ea_ with ea_ en_ ec_
         subst ea_
         subst ec_
         clear en_
         have p161 : 0 ≤ (x8_1 : Int):=of_decide_eq_true (by first | (with_reducible assumption) | assumption)
         have q161 : x8_1 < ((rd_L1 t151 t155).length : Int):=of_decide_eq_true (by first | (with_reducible assumption) | assumption)
         obtain ⟨ad161,e161,hx161_0⟩ := Kd.at_int (by repeat (first | (with_reducible exact HR160_0.out) | (with_reducible refine Kd.C_alloc ?_ _) | (with_reducible refine Kd.C_drewN ?_ _) | (with_reducible refine Kd.C_drew ?_) | exact HR160_0.out)) x8_1 p161 q161
         cases e161
         replace p161:=eq_true p161
         replace q161:=eq_true q161
         have p162 : 0 ≤ (t155 : Int):=of_decide_eq_true (by first | (with_reducible assumption) | assumption)
         have q162 : t155 < (t151.length : Int):=of_decide_eq_true (by first | (with_reducible assumption) | assumption)
         obtain ⟨ad162,A162_0,c162_0,e162,hx162_0,hl162_0,hi162_0⟩ := at_L1 (Kd.S_reads' HO_155001.out).2.2 t155 p162 q162
         obtain rfl : ad159 = ad162:=(by injection e162)
         obtain ⟨ce162,hce162,hMe162,hcc162⟩ := Kd.S_get HO_155001.out [] t155 p162 (by first | exact q162 | exact of_decide_eq_true (by first | (with_reducible assumption) | assumption) | (have e_:=(Kd.S_reads' HO_155001.out).1;omega))
         obtain ⟨ve162_0,rfl,ge162_0⟩ := hMe162
         have hv162_0:=hcc162 0 _ rfl
         rw [Nat.add_zero,show ((Kd.slice 3 (Kd.int .i64))).sz = 1 from rfl,Nat.mul_one] at hv162_0
         replace hv162_0:=Option.some.inj (hv162_0.symm.trans hx162_0)
         rw [hv162_0] at ge162_0
         have HL162_0:=Aside0.mk (show Kd.R (Kd.int .i64) 3 _ _ _ _ (rd_L1 t151 t155) from ge162_0)
         clear hv162_0 ge162_0
         clear hcc162 hce162
         have HR162_0:=Aside0.mk hi162_0
         have HC162_0:=Aside0.mk hl162_0
         clear hi162_0 hl162_0
         replace p162:=eq_true p162
         replace q162:=eq_true q162
         have ea_:=Option.some.inj (hx159_0.symm.trans hx162_0)
         injection ea_ with ea_ en_ ec_
         subst ea_
         subst ec_
         clear en_
         have p163 : 0 ≤ (x8_1 : Int):=of_decide_eq_true (by first | (with_reducible assumption) | assumption)
         have q163 : x8_1 < ((rd_L1 t151 t155).length : Int):=of_decide_eq_true (by first | (with_reducible assumption) | assumption)
         obtain ⟨ad163,e163,hx163_0⟩ := Kd.at_int (by repeat (first | (with_reducible exact HR162_0.out) | (with_reducible refine Kd.C_alloc ?_ _) | (with_reducible refine Kd.C_drewN ?_ _) | (with_reducible refine Kd.C_drew ?_) | exact HR162_0.out)) x8_1 p163 q163
         cases e163
         replace p163:=eq_true p163
         replace q163:=eq_true q163
         go_wp2_with (first | ((with_reducible refine gate_builtin (b := .append) (xs:=#[.tmp 35, .tmp 44]) rfl ?_);at_builtin;refine Kd.R_append (Kd.int .i64) (w0:=w) w.heap.size rfl (.tmp 35) (.tmp 44) 22 3 (.int .i64 0) 8 rfl Try.underlying22 info3 rfl (by decide) (by omega) u7 x7_1 (rd (rd_L1 t151 t155) x8_1) [.int .i64 (rd (rd_L1 t151 t155) x8_1)] (fun k_ => some k_ ≠ (.slice Ao11 t148.length co11 : Value).ownBlock) (fun _ => False) rfl rfl ?aP (fun _ hk => hk.elim) ?aF ?aO ?aB ?aS ?aL ?_;(case aP => exact rfl);(case aB => exact (by repeat (first | (with_reducible first | exact HB.out | apply below_alloc | apply pw_below_drewN | apply below_drew1 | refine below_set ?_ GE146.out | refine below_set ?_ GE147.out | refine below_set ?_ GE154.out) | exact HB.out)));(case aF => exact (fun k_ hk => Kd.fresh' (Kd.R_lt (by (with_reducible repeat (first | apply Kd.R_alloc | apply Kd.R_drewN | apply Kd.R_drew));exact HO_155000.out)) k_ hk));(case aO => exact (by (with_reducible repeat (first | apply Kd.R_alloc | apply Kd.R_drewN | apply Kd.R_drew));exact HO_7.out));(case aS => exact (below_size (by repeat (first | (with_reducible first | exact HB.out | apply below_alloc | apply pw_below_drewN | apply below_drew1 | refine below_set ?_ GE146.out | refine below_set ?_ GE147.out | refine below_set ?_ GE154.out) | exact HB.out))));(case aL => have:=LMc28.out;omega);intro v165 w32 ho hb hg hat;rw [← Ny164.out] at ho;have n0_:=Aside0.mk (Kd.R_after (ok:=(fun _ => True)) (by (with_reducible repeat (first | apply Kd.R_alloc | apply Kd.R_drewN | apply Kd.R_drew));exact Kd.R_mono HO_155000.out (fun _ hk => ⟨trivial,hk⟩)) hg hat);have n1_:=Aside0.mk (Kd.S_after (ok:=(fun k_ => some k_ ≠ (.slice Ao11 t148.length co11 : Value).ownBlock)) (by (with_reducible repeat (first | apply Kd.S_alloc | apply Kd.S_drewN | apply Kd.S_drew));exact Kd.S_mono HO_155001.out (fun _ hk => ⟨hk.2,hk.1⟩)) hg hat);have n2_:=Aside0.mk (blk_grown (g:=gb146) (o := .cells #[.slice A0_0 l0_0.length c0_0, .slice A0_1 l0_1.length c0_1] 27 (0,0)) (by (with_reducible repeat (first | refine blk_drewN ?_ _ | refine blk_drew ?_ | refine blk_alloc ?_ _));exact BK146.out) hg (Kd.R_ne HO_7.out BK146.out (by decide)));have n3_:=Aside0.mk (blk_grown (g:=gb147) (o := .cells #[.slice none 0 0, .slice none 0 0] 27 (0,0)) (by (with_reducible repeat (first | refine blk_drewN ?_ _ | refine blk_drew ?_ | refine blk_alloc ?_ _));exact BK147.out) hg (Kd.R_ne HO_7.out BK147.out (by decide)));have n4_:=Aside0.mk (blk_grown (g:=gb154) (o := .cells #[.slice Ao11 t148.length co11, .slice (some ad159) t151.length co15] 27 (0,0)) (by (with_reducible repeat (first | refine blk_drewN ?_ _ | refine blk_drew ?_ | refine blk_alloc ?_ _));exact BK154.out) hg (Kd.R_ne HO_7.out BK154.out (by decide)));have n5_:=Aside0.mk (Kd.R_after (ok:=(fun k_ => some k_ ≠ (.slice Ao11 t148.length co11 : Value).ownBlock ∧ some k_ ≠ (.slice (some ad159) t151.length co15 : Value).ownBlock)) (by (with_reducible repeat (first | apply Kd.R_alloc | apply Kd.R_drewN | apply Kd.R_drew));exact Kd.R_mono HL159_0.out (fun _ hk => ⟨⟨hk.1.2,hk.2⟩,hk.1.1⟩)) hg hat);have n6_:=Aside0.mk (Kd.R_after (ok:=(fun k_ => some k_ ≠ (.slice Ao11 t148.length co11 : Value).ownBlock ∧ some k_ ≠ (.slice (some ad159) t151.length co15 : Value).ownBlock)) (by (with_reducible repeat (first | apply Kd.R_alloc | apply Kd.R_drewN | apply Kd.R_drew));exact Kd.R_mono HL160_0.out (fun _ hk => ⟨⟨hk.1.2,hk.2⟩,hk.1.1⟩)) hg hat);have n7_:=Aside0.mk (Kd.R_after (ok:=(fun k_ => some k_ ≠ (.slice Ao11 t148.length co11 : Value).ownBlock ∧ some k_ ≠ (.slice (some ad159) t151.length co15 : Value).ownBlock)) (by (with_reducible repeat (first | apply Kd.R_alloc | apply Kd.R_drewN | apply Kd.R_drew));exact Kd.R_mono HL162_0.out (fun _ hk => ⟨⟨hk.1.2,hk.2⟩,hk.1.1⟩)) hg hat);have n8_:=Aside0.mk (hb);have n9_:=Aside0.mk (ho);clear HO_155000;clear HO_155001;clear BK146;clear BK147;clear BK154;clear HL159_0;clear HL160_0;clear HL162_0;clear HB;clear HO_7;have HO_155000:=n0_;have HO_155001:=n1_;have BK146:=n2_;have BK147:=n3_;have BK154:=n4_;have HL159_0:=n5_;have HL160_0:=n6_;have HL162_0:=n7_;have HB:=n8_;have HO166:=n9_;clear n0_ n1_ n2_ n3_ n4_ n5_ n6_ n7_ n8_ n9_;clear ho hb hg hat))
         go_roundg k1
         case measure => have:=HK1.out;omega
         case rel => exact ⟨(y164),(wrap64 (x8_1 + 1)),(by first | rfl | (simp;done) | (simp [*];done)),H',⟨by have:=HK1.out;omega⟩,⟨by (with_reducible repeat (first | apply Kd.R_alloc | apply Kd.R_drewN | apply Kd.R_drew));exact HO166.out⟩,⟨by (with_reducible repeat (first | apply Kd.R_alloc | apply Kd.R_drewN | apply Kd.R_drew));exact Kd.R_mono HO_155000.out (fun _ hk => hk.2)⟩,⟨by (with_reducible repeat (first | apply Kd.S_alloc | apply Kd.S_drewN | apply Kd.S_drew));exact Kd.S_mono HO_155001.out (fun _ hk => ⟨hk.2,hk.1⟩)⟩,⟨by (with_reducible repeat (first | refine blk_drewN ?_ _ | refine blk_drew ?_ | refine blk_alloc ?_ _));exact BK146.out⟩,⟨by (with_reducible repeat (first | refine blk_drewN ?_ _ | refine blk_drew ?_ | refine blk_alloc ?_ _));exact BK147.out⟩,⟨by (with_reducible repeat (first | refine blk_drewN ?_ _ | refine blk_drew ?_ | refine blk_alloc ?_ _));exact BK154.out⟩,⟨by repeat (first | (with_reducible first | exact HB.out | apply below_alloc | apply pw_below_drewN | apply below_drew1 | refine below_set ?_ GE146.out | refine below_set ?_ GE147.out | refine below_set ?_ GE154.out) | exact HB.out)⟩⟩
        ·rw [if_neg c28] at H
         exact absurd H (by simp)
      ·rw [if_neg c23] at H
       exact absurd H (by simp)
     ·rw [if_neg c22] at H
      have c22b0 : decide (x8_1 < ((rd_L1 t151 t155).length : Int)) = false:=decide_eq_false c22
      clear c22
      obtain ⟨y167,hy167⟩ : ∃ y_ : List (List Int),y_ = (t151.set (t155 : Int).toNat x7_1):=⟨_,rfl⟩
      replace H : (some (t148,y167)) = some (r1,r2):=by first | (rw [hy167];with_reducible exact H) | (have H2_:=(Option.bind_some _ _).symm.trans H;rw [hy167];with_reducible exact H2_) | (have H2_:=(Option.bind_some _ _).symm.trans H;with_reducible exact H2_) | with_reducible exact H | (rw [hy167];exact H) | exact H
      have Ny167:=Aside0.mk hy167
      clear hy167
      simp only [Option.some.injEq,Prod.mk.injEq] at H
      obtain ⟨rfl,rfl⟩ := H
      have hnb34:=NB154_146.out
      have hnc34:=NB146_154.out
      have hnb35:=NB154_147.out
      have hnc35:=NB147_154.out
      have hcz36_0 : wr.cell? ⟨gb154,0,none⟩ = some (.slice Ao11 t148.length co11):=(blk_cell BK154.out 0).trans rfl
      have hcz36_1 : wr.cell? ⟨gb154,1,none⟩ = some (.slice Ao15 t151.length co15):=(blk_cell BK154.out 1).trans rfl
      have hfz36_0:=blk_frozen BK154.out 0
      have hfz36_1:=blk_frozen BK154.out 1
      have p159 : 0 ≤ (t155 : Int):=of_decide_eq_true (by first | (with_reducible assumption) | assumption)
      have q159 : t155 < (t151.length : Int):=of_decide_eq_true (by first | (with_reducible assumption) | assumption)
      obtain ⟨ad159,A159_0,c159_0,e159,hx159_0,hl159_0,hi159_0⟩ := at_L1 (Kd.S_reads' HO_155001.out).2.2 t155 p159 q159
      cases e159
      obtain ⟨ce159,hce159,hMe159,hcc159⟩ := Kd.S_get HO_155001.out [] t155 p159 (by first | exact q159 | exact of_decide_eq_true (by first | (with_reducible assumption) | assumption) | (have e_:=(Kd.S_reads' HO_155001.out).1;omega))
      obtain ⟨ve159_0,rfl,ge159_0⟩ := hMe159
      have hv159_0:=hcc159 0 _ rfl
      rw [Nat.add_zero,show ((Kd.slice 3 (Kd.int .i64))).sz = 1 from rfl,Nat.mul_one] at hv159_0
      replace hv159_0:=Option.some.inj (hv159_0.symm.trans hx159_0)
      rw [hv159_0] at ge159_0
      have HL159_0:=Aside0.mk (show Kd.R (Kd.int .i64) 3 _ _ _ _ (rd_L1 t151 t155) from ge159_0)
      clear hv159_0 ge159_0
      clear hcc159 hce159
      have HR159_0:=Aside0.mk hi159_0
      have HC159_0:=Aside0.mk hl159_0
      clear hi159_0 hl159_0
      replace p159:=eq_true p159
      replace q159:=eq_true q159
      have p33 : 0 ≤ (t155 : Int):=of_decide_eq_true (by first | (with_reducible assumption) | assumption)
      have q33 : (t155 : Int) < ((t151.length : Int) : Int):=of_decide_eq_true (by first | (with_reducible assumption) | assumption)
      obtain ⟨go33,co33,eo33,gb33,gl33,cl33,HG33⟩ := Kd.S_form HO_155001.out (by omega)
      (first | cases eo33 | (injection eo33 with ea_ en_ ec_;(first | subst ea_ | (injection ea_ with ea_;subst ea_));subst ec_;clear en_))
      have GB33:=Aside0.mk gb33
      have GG33:=Aside0.mk HG33
      clear gb33 gl33 HG33
      (first | simp only [add_plain] at hx159_0 | skip)
      (first | simp only [add_plain] at hx160_0 | skip)
      (first | simp only [add_plain] at hx162_0 | skip)
      obtain ⟨_,ce33,hcl33,hM33,hcc33,hfr33,_,_⟩ := Kd.S_elem HO_155001.out [] (t155 : Int) p33 q33
      obtain ⟨ve33_0,rfl,ge33_0⟩ := hM33
      have hx33_0:=hcc33 0 _ rfl
      have hf33_0:=hfr33 0
      (try simp only [show ((Kd.slice 3 (Kd.int .i64))).sz = 1 from rfl,Nat.mul_one,Nat.add_zero] at hx33_0)
      (try simp only [show ((Kd.slice 3 (Kd.int .i64))).sz = 1 from rfl,Nat.mul_one,Nat.add_zero] at hf33_0)
      clear hcl33 hcc33 hfr33;(try clear hM33)
      replace p33:=eq_true p33
      replace q33:=eq_true q33
      have HX37:=Aside0.mk (show Kd.S (Kd.slice 3 (Kd.int .i64)) 22 wr w.heap.size (fun k_ => ((fun k_ => some k_ ≠ (.slice Ao11 t148.length co11 : Value).ownBlock)) k_ ∧ ¬ ((fun k_ => some k_ = (u7 : Value).ownBlock)) k_) (.slice (some ⟨go33,0,none⟩) t151.length co15) t151 from (by (with_reducible repeat (first | apply Kd.S_alloc | apply Kd.S_drewN | apply Kd.S_drew));exact Kd.S_mono HO_155001.out (fun k_ hk => ⟨hk.2,fun e_ => hk.1 e_⟩)))
      obtain ⟨oki37,ce37,hcl37,hM37,hcc37,hfr37,hoki37,hH37⟩ := Kd.S_elem HX37.out [] (t155 : Int) (of_decide_eq_true (by first | (with_reducible assumption) | assumption)) (by have h_ : (t155 : Int) < ((t151.length : Int) : Int):=of_decide_eq_true (by first | (with_reducible assumption) | assumption);first | exact h_ | (have e_:=(Kd.S_reads' HO_155001.out).1;omega) | simpa using h_)
      obtain ⟨ve37_0,rfl,ge37_0⟩ := hM37
      have HP37:=Kd.S_seg hH37 (of_decide_eq_true (by first | (with_reducible assumption) | assumption)) (by have h_ : (t155 : Int) < ((t151.length : Int) : Int):=of_decide_eq_true (by first | (with_reducible assumption) | assumption);first | exact h_ | (have e_:=(Kd.S_reads' HO_155001.out).1;omega) | simpa using h_) (seg := [u7]) (j:=0) (show 1 ≤ 1 from by decide) (x':=x7_1) (Kd.M_row (Kd.R_mono (Kd.R_tight rfl (Kd.R_mono (ok':=fun k_ => ((fun k_ => some k_ ≠ (.slice Ao11 t148.length co11 : Value).ownBlock)) k_ ∧ k_ ≠ go33) (Kd.R_apart' (HO_7.out) (Kd.S_typed HO_155001.out) (by decide)) (fun k_ hk => ⟨hk.1,fun e_ => (hk.2) (by rw [e_];rfl)⟩))) (fun _ h_ => Or.inr (h_)))) (fun _ hk => hk) (fun k_ hk_ => ((Kd.R_mono (ok':=fun k_ => ((fun k_ => some k_ ≠ (.slice Ao11 t148.length co11 : Value).ownBlock)) k_ ∧ k_ ≠ go33) (Kd.R_apart' (HO_7.out) (Kd.S_typed HO_155001.out) (by decide)) (fun k_ hk => ⟨hk.1,fun e_ => (hk.2) (by rw [e_];rfl)⟩))).1 k_ hk_.symm)
      have hx37_0:=hcc37 0 _ rfl
      (try simp only [show ((Kd.slice 3 (Kd.int .i64))).sz = 1 from rfl,Nat.mul_one,Nat.add_zero] at hx37_0)
      have hf37_0:=hfr37 0
      (try simp only [show ((Kd.slice 3 (Kd.int .i64))).sz = 1 from rfl,Nat.mul_one,Nat.add_zero] at hf37_0)
      clear hcl37 hcc37 hfr37 hoki37 hH37;(try clear hM37)
      (try simp only [show ((Kd.slice 3 (Kd.int .i64))).sz = 1 from rfl,Nat.mul_one,Nat.add_zero] at HP37)
      go_wp2_with (first | ((with_reducible refine gate_store (t:=22) (p:=50) rfl ?_);refine store_event (t:=22) (p:=50) (v:=?vo_w38) (w1:=(wr.setCell ⟨go33,(t155 : Int).toNat,none⟩ (u7))) ?hg ?ho ?hn ?hr ?_;(case ho => rfl);(case hg => rfl);(case hn => rfl);(case hr => first | (go_simp;done) | (obtain ⟨Aq_,cq_,eq_⟩ := Kd.R_slice HO_7.out;rw [eq_];first | (go_simp;done) | (go_simp;rfl)) | (go_simp;rfl));intro w38 hw;have hg : wr.grownBy w38 (some go33):=(by rw [hw];exact HP37.2);have hp_ : Kd.S (Kd.slice 3 (Kd.int .i64)) 22 w38 w.heap.size (fun k_ => some k_ ≠ (.slice Ao11 t148.length co11 : Value).ownBlock) (.slice (some ⟨go33,0,none⟩) t151.length co15) y167:=(by rw [hw,Ny167.out];exact HP37.1);clear HP37;have n0_:=Aside0.mk (Kd.R_over' (v:=(.slice (some ⟨go33,0,none⟩) t151.length co15)) (by (with_reducible repeat (first | apply Kd.R_alloc | apply Kd.R_drewN | apply Kd.R_drew));exact HO_155000.out) (Kd.S_typed HO_155001.out) (by decide) hg);have n1_:=Aside0.mk (hp_);have n2_:=Aside0.mk (blk_grown (g:=gb146) (o := .cells #[.slice A0_0 l0_0.length c0_0, .slice A0_1 l0_1.length c0_1] 27 (0,0)) (by (with_reducible repeat (first | refine blk_drewN ?_ _ | refine blk_drew ?_ | refine blk_alloc ?_ _));exact BK146.out) hg (Kd.S_ne HO_155001.out BK146.out (by decide)));have n3_:=Aside0.mk (blk_grown (g:=gb147) (o := .cells #[.slice none 0 0, .slice none 0 0] 27 (0,0)) (by (with_reducible repeat (first | refine blk_drewN ?_ _ | refine blk_drew ?_ | refine blk_alloc ?_ _));exact BK147.out) hg (Kd.S_ne HO_155001.out BK147.out (by decide)));have n4_:=Aside0.mk (blk_grown (g:=gb154) (o := .cells #[.slice Ao11 t148.length co11, .slice (some ⟨go33,0,none⟩) t151.length co15] 27 (0,0)) (by (with_reducible repeat (first | refine blk_drewN ?_ _ | refine blk_drew ?_ | refine blk_alloc ?_ _));exact BK154.out) hg (Kd.S_ne HO_155001.out BK154.out (by decide)));have n5_:=Aside0.mk (Kd.R_after (v:=(.slice (some ⟨go33,0,none⟩) t151.length co15)) (v1:=(.slice (some ⟨go33,0,none⟩) t151.length co15)) (ok:=(fun k_ => some k_ ≠ (u7 : Value).ownBlock ∧ some k_ ≠ (.slice Ao11 t148.length co11 : Value).ownBlock)) (by (with_reducible repeat (first | apply Kd.R_alloc | apply Kd.R_drewN | apply Kd.R_drew));exact HL159_0.out) hg (.inl rfl));have n6_:=Aside0.mk ((by rw [hw];exact below_set (HB.out) GB33.out : Below w.heap.size w w38));clear HO_155000;clear HO_155001;clear BK146;clear BK147;clear BK154;clear HL159_0;clear HB;clear HO_7;have HO_155000:=n0_;have HO_155001:=n1_;have BK146:=n2_;have BK147:=n3_;have BK154:=n4_;have HL159_0:=n5_;have HB:=n6_;clear n0_ n1_ n2_ n3_ n4_ n5_ n6_;clear hg hw hp_;have hcz39_0 : w38.cell? ⟨gb154,0,none⟩ = some (.slice Ao11 t148.length co11):=(blk_cell BK154.out 0).trans rfl;have hcz39_1 : w38.cell? ⟨gb154,1,none⟩ = some (.slice (some ⟨go33,0,none⟩) t151.length co15):=(blk_cell BK154.out 1).trans rfl;have hfz39_0:=blk_frozen BK154.out 0;have hfz39_1:=blk_frozen BK154.out 1;have hnb40:=NB147_146.out;have hnc40:=NB146_147.out;have hcz41_0 : w38.cell? ⟨gb147,0,none⟩ = some (.slice none 0 0):=(blk_cell BK147.out 0).trans rfl;have hcz41_1 : w38.cell? ⟨gb147,1,none⟩ = some (.slice none 0 0):=(blk_cell BK147.out 1).trans rfl;have hfz41_0:=blk_frozen BK147.out 0;have hfz41_1:=blk_frozen BK147.out 1))
      refine bodyPost_ret (results_cell_row rfl _ _ gb147 27 #[.slice Ao11 t148.length co11, .slice (some ⟨go33,0,none⟩) t151.length co15] (0,0) _ rfl ?hblk_ Try.underlying27 rfl (by kernel_rfl)) rfl ?_
      case hblk_ => (with_reducible repeat (first | refine blk_drewN ?_ _ | refine blk_drew ?_ | refine blk_alloc ?_ _));refine blk_put (cs:=#[.slice Ao11 t148.length co11, .slice none 0 0]) ?_ 1 _ rfl;(with_reducible repeat (first | refine blk_drewN ?_ _ | refine blk_drew ?_ | refine blk_alloc ?_ _));refine blk_put (cs:=#[.slice none 0 0, .slice none 0 0]) ?_ 0 _ rfl;(with_reducible repeat (first | refine blk_drewN ?_ _ | refine blk_drew ?_ | refine blk_alloc ?_ _));exact BK147.out
      exact ⟨_,_,by first | rfl | (simp [errW_none,errW_some] <;> rfl) | (simp [*,errW_none,errW_some] <;> rfl),by (with_reducible repeat (first | apply Kd.R_alloc | apply Kd.R_drewN | apply Kd.R_drew));exact Kd.R_mono (Kd.R_far (p:=⟨gb147,1,none⟩) (Kd.R_far (p:=⟨gb147,0,none⟩) (Kd.R_types HO_155000.out BK147.out (by decide)) (fun _ hk => hk.2) (.slice Ao11 t148.length co11)) (fun _ hk => hk.2) (.slice (some ⟨go33,0,none⟩) t151.length co15)) (fun _ hk => trivial),by (with_reducible repeat (first | apply Kd.S_alloc | apply Kd.S_drewN | apply Kd.S_drew));exact Kd.S_mono (Kd.S_far (p:=⟨gb147,1,none⟩) (Kd.S_far (p:=⟨gb147,0,none⟩) (Kd.S_types HO_155001.out BK147.out (by decide)) (fun _ hk => hk.2) (.slice Ao11 t148.length co11)) (fun _ hk => hk.2) (.slice (some ⟨go33,0,none⟩) t151.length co15)) (fun _ hk => hk.1),by repeat (first | (with_reducible first | exact HB.out | apply below_alloc | apply pw_below_drewN | apply below_drew1 | refine below_set ?_ GE146.out | refine below_set ?_ GE147.out | refine below_set ?_ GE154.out) | exact HB.out)⟩
    ·rw [if_neg c21] at H
     exact absurd H (by simp)
   ·rw [if_neg c20] at H
    exact absurd H (by simp)

/-! ### spec_CancelTruck: function 9 -/
def spec_CancelTruck.f (k : Nat) (l0_0 : List Int) (l0_1 : List (List Int)) (a1 : Int) : Option (List Int × (List (List Int)) × Bool):=(spec_l18Good.f k l0_0 l0_1).bind fun t170 => (if t170 = true then ((spec_l18Find.f k l0_0 l0_1 a1).bind fun t171 => (if t171 < 0 then (some (([] : List Int),([] : List (List Int)),false)) else ((spec_l18Cancel.f k l0_0 l0_1 a1).bind fun bt172 => (some (bt172.1,bt172.2,true))))) else (some (([] : List Int),([] : List (List Int)),false)))
theorem spec_CancelTruck.mono : ∀ a0 a1 a2 k,LeO (spec_CancelTruck.f k a0 a1 a2) (spec_CancelTruck.f (k + 1) a0 a1 a2):=by
 intro a0 a1 a2 k
 unfold spec_CancelTruck.f
 repeat' first
   | (with_reducible exact spec_l18Cancel.mono _ _ _ _)
   | (with_reducible exact spec_l18Find.mono _ _ _ _)
   | (with_reducible exact spec_l18Good.mono _ _ _)
   | (with_reducible exact LeO.refl _)
   | (with_reducible exact LeO.none _)
   | (with_reducible refine LeO.ite ?_ ?_)
   | (with_reducible refine LeO.bind ?_ (fun _ => ?_))
   | exact spec_l18Cancel.mono _ _ _ _
   | exact spec_l18Find.mono _ _ _ _
   | exact spec_l18Good.mono _ _ _
   | exact LeO.none _
   | refine LeO.ite ?_ ?_
   | refine LeO.bind ?_ (fun _ => ?_)
set_option maxHeartbeats 8000000 in
set_option maxRecDepth 100000 in
theorem spec_CancelTruck.calls (k : Nat) (A0_0 : Option Addr) (c0_0 : Nat) (l0_0 : List Int) (A0_1 : Option Addr) (c0_1 : Nat) (l0_1 : List (List Int)) (a1 : Int) (r1 : List Int) (r2 : List (List Int)) (r3 : Bool) (w : World) (hr0_0 : Kd.C (Kd.int .i64) w A0_0 l0_0.length l0_0) (hc0_0 : l0_0.length ≤ c0_0) (hr0_1 : Kd.C (Kd.slice 3 (Kd.int .i64)) w A0_1 l0_1.length l0_1) (hc0_1 : l0_1.length ≤ c0_1) (h : spec_CancelTruck.f k l0_0 l0_1 a1 = some (r1,r2,r3)) :
  Calls Try.prog 9 #[.agg #[.slice A0_0 l0_0.length c0_0, .slice A0_1 l0_1.length c0_1], .int .i64 a1] w fun e w' => ∃ v0_ v1_ : Value,e = .returned (.tuple #[.agg #[v0_,v1_], .bool r3]) ∧ Kd.R (Kd.int .i64) 3 w' w.heap.size (fun _ => True) v0_ r1 ∧ Kd.S (Kd.slice 3 (Kd.int .i64)) 22 w' w.heap.size (fun k_ => some k_ ≠ (v0_ : Value).ownBlock) v1_ r2 ∧ Below w.heap.size w w':=by
 have hu27:=Try.underlying27
 have HR0_0:=Aside0.mk hr0_0
 have HC0_0:=Aside0.mk hc0_0
 clear hr0_0 hc0_0
 have HR0_1:=Aside0.mk hr0_1
 have HC0_1:=Aside0.mk hc0_1
 clear hr0_1 hc0_1
 have HB:=Aside0.mk (Below.refl w.heap.size w)
 have H : ((spec_l18Good.f k l0_0 l0_1).bind fun t170 => (if t170 = true then ((spec_l18Find.f k l0_0 l0_1 a1).bind fun t171 => (if t171 < 0 then (some (([] : List Int),([] : List (List Int)),false)) else ((spec_l18Cancel.f k l0_0 l0_1 a1).bind fun bt172 => (some (bt172.1,bt172.2,true))))) else (some (([] : List Int),([] : List (List Int)),false)))) = some (r1,r2,r3):=h
 clear h
 replace H:=Option.bind_eq_some_iff.mp H
 obtain ⟨t170,A30,H⟩ := H
 replace H : (if t170 = true then ((spec_l18Find.f k l0_0 l0_1 a1).bind fun t171 => (if t171 < 0 then (some (([] : List Int),([] : List (List Int)),false)) else ((spec_l18Cancel.f k l0_0 l0_1 a1).bind fun bt172 => (some (bt172.1,bt172.2,true))))) else (some (([] : List Int),([] : List (List Int)),false))) = some (r1,r2,r3):=H
 have A3:=Aside0.mk A30
 clear A30
 by_cases c4 : t170 = true
 ·subst c4
  have H1 : ((spec_l18Find.f k l0_0 l0_1 a1).bind fun t171 => (if t171 < 0 then (some (([] : List Int),([] : List (List Int)),false)) else ((spec_l18Cancel.f k l0_0 l0_1 a1).bind fun bt172 => (some (bt172.1,bt172.2,true))))) = some (r1,r2,r3):=by rw [if_pos rfl] at H;exact H
  clear H
  have H:=H1
  clear H1
  replace H:=Option.bind_eq_some_iff.mp H
  obtain ⟨t171,A50,H⟩ := H
  replace H : (if t171 < 0 then (some (([] : List Int),([] : List (List Int)),false)) else ((spec_l18Cancel.f k l0_0 l0_1 a1).bind fun bt172 => (some (bt172.1,bt172.2,true)))) = some (r1,r2,r3):=H
  have A5:=Aside0.mk A50
  clear A50
  by_cases c6 : t171 < 0
  ·rw [if_pos c6] at H
   have c6b0 : decide (t171 < 0) = true:=decide_eq_true c6
   clear c6
   simp only [Option.some.injEq,Prod.mk.injEq] at H
   obtain ⟨rfl,rfl,rfl⟩ := H
   go_enter Try.func9,Try.ntmps9
   go_wp2_with (first | ((with_reducible refine gate_dst (N:=2) rfl ?_);refine box_event ?hg (N:=2) ?hd (cs:=#[.slice A0_0 l0_0.length c0_0, .slice A0_1 l0_1.length c0_1]) (t:=27) ?hr ?_;(case hd => rfl);(case hg => rfl);(case hr => first | (go_simp;done) | (go_simp;rfl));intro gb168 hg w7 hbox hb;have n0_:=Aside0.mk (below_step (by repeat (first | (with_reducible first | exact HB.out | apply below_alloc | apply pw_below_drewN | apply below_drew1) | exact HB.out)) hb);have n1_:=Aside0.mk (hbox);have n2_:=Aside0.mk ((by rw [hg];exact (below_size (by repeat (first | (with_reducible first | exact HB.out | apply below_alloc | apply pw_below_drewN | apply below_drew1) | exact HB.out))) : w.heap.size ≤ gb168));have n3_:=Aside0.mk ((by rw [hg];exact (below_size (by repeat (first | (with_reducible first | exact HB.out | apply below_alloc | apply pw_below_drewN | apply below_drew1) | exact HB.out))) : w.heap.size ≤ gb168));clear HB;have HB:=n0_;have BK168:=n1_;have GW168:=n2_;have GE168:=n3_;clear n0_ n1_ n2_ n3_;clear hb hbox hg) | ((with_reducible refine gate_dst (N:=4) rfl ?_);refine box_event ?hg (N:=4) ?hd (cs:=#[.slice none 0 0, .slice none 0 0]) (t:=27) ?hr ?_;(case hd => rfl);(case hg => rfl);(case hr => first | (go_simp;done) | (go_simp;rfl));intro gb169 hg w8 hbox hb;have n0_:=Aside0.mk (blk_below (g:=gb168) (o := .cells #[.slice A0_0 l0_0.length c0_0, .slice A0_1 l0_1.length c0_1] 27 (0,0)) (by (with_reducible repeat (first | refine blk_drewN ?_ _ | refine blk_drew ?_ | refine blk_alloc ?_ _));exact BK168.out) hb);have n1_:=Aside0.mk (below_step (by repeat (first | (with_reducible first | exact HB.out | apply below_alloc | apply pw_below_drewN | apply below_drew1 | refine below_set ?_ GE168.out) | exact HB.out)) hb);have n2_:=Aside0.mk (hbox);have n3_:=Aside0.mk ((by rw [hg];exact (below_size (by repeat (first | (with_reducible first | exact HB.out | apply below_alloc | apply pw_below_drewN | apply below_drew1 | refine below_set ?_ GE168.out) | exact HB.out))) : w.heap.size ≤ gb169));have n4_:=Aside0.mk ((by rw [hg];exact (below_size (by repeat (first | (with_reducible first | exact HB.out | apply below_alloc | apply pw_below_drewN | apply below_drew1 | refine below_set ?_ GE168.out) | exact HB.out))) : w.heap.size ≤ gb169));have n5_:=Aside0.mk ((by rw [hg];exact Nat.ne_of_lt (blk_lt (g:=gb168) (o := .cells #[.slice A0_0 l0_0.length c0_0, .slice A0_1 l0_1.length c0_1] 27 (0,0)) (by (with_reducible repeat (first | refine blk_drewN ?_ _ | refine blk_drew ?_ | refine blk_alloc ?_ _));exact BK168.out)) : gb168 ≠ gb169));have n6_:=Aside0.mk ((by rw [hg];exact Nat.ne_of_gt (blk_lt (g:=gb168) (o := .cells #[.slice A0_0 l0_0.length c0_0, .slice A0_1 l0_1.length c0_1] 27 (0,0)) (by (with_reducible repeat (first | refine blk_drewN ?_ _ | refine blk_drew ?_ | refine blk_alloc ?_ _));exact BK168.out)) : gb169 ≠ gb168));clear BK168;clear HB;have BK168:=n0_;have HB:=n1_;have BK169:=n2_;have GW169:=n3_;have GE169:=n4_;have NB168_169:=n5_;have NB169_168:=n6_;clear n0_ n1_ n2_ n3_ n4_ n5_ n6_;clear hb hbox hg;have hnb9:=NB168_169.out;have hnc9:=NB169_168.out;have hcz10_0 : w8.cell? ⟨gb168,0,none⟩ = some (.slice A0_0 l0_0.length c0_0):=(blk_cell BK168.out 0).trans rfl;have hcz10_1 : w8.cell? ⟨gb168,1,none⟩ = some (.slice A0_1 l0_1.length c0_1):=(blk_cell BK168.out 1).trans rfl;have hfz10_0:=blk_frozen BK168.out 0;have hfz10_1:=blk_frozen BK168.out 1) | ((with_reducible refine gate_callee (f:=28) rfl ?_);refine goesL_ (some 7) rfl rfl Try.func28 (by kernel_rfl) rfl #[.agg #[.slice A0_0 l0_0.length c0_0, .slice A0_1 l0_1.length c0_1]] rfl (by (try simp only [List.map_toArray,List.map_cons,List.map_nil]);first | done | rfl | (simp only [List.length_drop,List.length_take];rfl)) ?_;(with_reducible refine (spec_l18Good.calls k _ _ l0_0 _ _ l0_1 true _ ?side1 ?side2 ?side3 ?side4 A3.out).mono ?_);(case side1 => repeat (first | exact (Kd.C_below HR0_0.out HB.out) | (with_reducible refine Kd.C_alloc ?_ _) | (with_reducible refine Kd.C_drewN ?_ _) | (with_reducible refine Kd.C_drew ?_)));(case side2 => exact HC0_0.out);(case side3 => repeat (first | exact (Kd.C_below HR0_1.out HB.out) | (with_reducible refine Kd.C_alloc ?_ _) | (with_reducible refine Kd.C_drewN ?_ _) | (with_reducible refine Kd.C_drew ?_)));(case side4 => exact HC0_1.out);rintro e w11 ⟨rfl,hb⟩;refine ⟨_,rfl, ?_⟩;have n0_:=Aside0.mk (blk_below (g:=gb168) (o := .cells #[.slice A0_0 l0_0.length c0_0, .slice A0_1 l0_1.length c0_1] 27 (0,0)) (by (with_reducible repeat (first | refine blk_drewN ?_ _ | refine blk_drew ?_ | refine blk_alloc ?_ _));exact BK168.out) hb);have n1_:=Aside0.mk (blk_below (g:=gb169) (o := .cells #[.slice none 0 0, .slice none 0 0] 27 (0,0)) (by (with_reducible repeat (first | refine blk_drewN ?_ _ | refine blk_drew ?_ | refine blk_alloc ?_ _));exact BK169.out) hb);have n2_:=Aside0.mk (below_step (by repeat (first | (with_reducible first | exact HB.out | apply below_alloc | apply pw_below_drewN | apply below_drew1 | refine below_set ?_ GE168.out | refine below_set ?_ GE169.out) | exact HB.out)) hb);clear BK168;clear BK169;clear HB;have BK168:=n0_;have BK169:=n1_;have HB:=n2_;clear n0_ n1_ n2_;(try clear hb);(try clear hb2);(try clear hk);(try clear hi);have hcz12_0 : w11.cell? ⟨gb168,0,none⟩ = some (.slice A0_0 l0_0.length c0_0):=(blk_cell BK168.out 0).trans rfl;have hcz12_1 : w11.cell? ⟨gb168,1,none⟩ = some (.slice A0_1 l0_1.length c0_1):=(blk_cell BK168.out 1).trans rfl;have hfz12_0:=blk_frozen BK168.out 0;have hfz12_1:=blk_frozen BK168.out 1) | (go_at_call 29;(with_reducible refine (spec_l18Find.calls k _ _ l0_0 _ _ l0_1 a1 t171 _ ?side1 ?side2 ?side3 ?side4 A5.out).mono ?_);(case side1 => repeat (first | exact (Kd.C_below HR0_0.out HB.out) | (with_reducible refine Kd.C_alloc ?_ _) | (with_reducible refine Kd.C_drewN ?_ _) | (with_reducible refine Kd.C_drew ?_)));(case side2 => exact HC0_0.out);(case side3 => repeat (first | exact (Kd.C_below HR0_1.out HB.out) | (with_reducible refine Kd.C_alloc ?_ _) | (with_reducible refine Kd.C_drewN ?_ _) | (with_reducible refine Kd.C_drew ?_)));(case side4 => exact HC0_1.out);rintro e w13 ⟨rfl,hb⟩;have n0_:=Aside0.mk (blk_below (g:=gb168) (o := .cells #[.slice A0_0 l0_0.length c0_0, .slice A0_1 l0_1.length c0_1] 27 (0,0)) (by (with_reducible repeat (first | refine blk_drewN ?_ _ | refine blk_drew ?_ | refine blk_alloc ?_ _));exact BK168.out) hb);have n1_:=Aside0.mk (blk_below (g:=gb169) (o := .cells #[.slice none 0 0, .slice none 0 0] 27 (0,0)) (by (with_reducible repeat (first | refine blk_drewN ?_ _ | refine blk_drew ?_ | refine blk_alloc ?_ _));exact BK169.out) hb);have n2_:=Aside0.mk (below_step (by repeat (first | (with_reducible first | exact HB.out | apply below_alloc | apply pw_below_drewN | apply below_drew1 | refine below_set ?_ GE168.out | refine below_set ?_ GE169.out) | exact HB.out)) hb);clear BK168;clear BK169;clear HB;have BK168:=n0_;have BK169:=n1_;have HB:=n2_;clear n0_ n1_ n2_;(try clear hb);(try clear hb2);(try clear hk);(try clear hi);have hcz14_0 : w13.cell? ⟨gb169,0,none⟩ = some (.slice none 0 0):=(blk_cell BK169.out 0).trans rfl;have hcz14_1 : w13.cell? ⟨gb169,1,none⟩ = some (.slice none 0 0):=(blk_cell BK169.out 1).trans rfl;have hfz14_0:=blk_frozen BK169.out 0;have hfz14_1:=blk_frozen BK169.out 1))
   refine bodyPost_ret (results_ct rfl _ _ gb169 27 #[.slice none 0 0, .slice none 0 0] (0,0) _ rfl (by (with_reducible repeat (first | refine blk_drewN ?_ _ | refine blk_drew ?_ | refine blk_alloc ?_ _));refine blk_put (cs:=#[.slice none 0 0, .slice none 0 0]) ?_ 1 _ rfl;(with_reducible repeat (first | refine blk_drewN ?_ _ | refine blk_drew ?_ | refine blk_alloc ?_ _));refine blk_put (cs:=#[.slice none 0 0, .slice none 0 0]) ?_ 0 _ rfl;(with_reducible repeat (first | refine blk_drewN ?_ _ | refine blk_drew ?_ | refine blk_alloc ?_ _));exact BK169.out) Try.underlying27 rfl (by kernel_rfl)) rfl ?_
   exact ⟨_,_,by first | rfl | (simp [errW_none,errW_some] <;> rfl) | (simp [*,errW_none,errW_some] <;> rfl),by first | exact Kd.R_nil _ _ _ _ _ | exact Kd.N_nil _ _ _ _ _ | exact Kd.V_nil _ _ _ _ _ | exact Kd.Q_nil _ _ _ _ _ | exact Kd.S_nil _ _ _ _ _,by first | exact Kd.S_nil _ _ _ _ _ | exact Kd.N_nil _ _ _ _ _ | exact Kd.V_nil _ _ _ _ _ | exact Kd.Q_nil _ _ _ _ _ | exact Kd.R_nil _ _ _ _ _,by repeat (first | (with_reducible first | exact HB.out | apply below_alloc | apply pw_below_drewN | apply below_drew1 | refine below_set ?_ GE168.out | refine below_set ?_ GE169.out) | exact HB.out)⟩
  ·rw [if_neg c6] at H
   have c6b0 : decide (t171 < 0) = false:=decide_eq_false c6
   clear c6
   replace H:=Option.bind_eq_some_iff.mp H
   obtain ⟨⟨t172,t175⟩,A150,H⟩ := H
   replace H : (some (t172,t175,true)) = some (r1,r2,r3):=H
   have A15:=Aside0.mk A150
   clear A150
   simp only [Option.some.injEq,Prod.mk.injEq] at H
   obtain ⟨rfl,rfl,rfl⟩ := H
   go_enter Try.func9,Try.ntmps9
   go_wp2_with (first | ((with_reducible refine gate_dst (N:=2) rfl ?_);refine box_event ?hg (N:=2) ?hd (cs:=#[.slice A0_0 l0_0.length c0_0, .slice A0_1 l0_1.length c0_1]) (t:=27) ?hr ?_;(case hd => rfl);(case hg => rfl);(case hr => first | (go_simp;done) | (go_simp;rfl));intro gb168 hg w16 hbox hb;have n0_:=Aside0.mk (below_step (by repeat (first | (with_reducible first | exact HB.out | apply below_alloc | apply pw_below_drewN | apply below_drew1) | exact HB.out)) hb);have n1_:=Aside0.mk (hbox);have n2_:=Aside0.mk ((by rw [hg];exact (below_size (by repeat (first | (with_reducible first | exact HB.out | apply below_alloc | apply pw_below_drewN | apply below_drew1) | exact HB.out))) : w.heap.size ≤ gb168));have n3_:=Aside0.mk ((by rw [hg];exact (below_size (by repeat (first | (with_reducible first | exact HB.out | apply below_alloc | apply pw_below_drewN | apply below_drew1) | exact HB.out))) : w.heap.size ≤ gb168));clear HB;have HB:=n0_;have BK168:=n1_;have GW168:=n2_;have GE168:=n3_;clear n0_ n1_ n2_ n3_;clear hb hbox hg) | ((with_reducible refine gate_dst (N:=4) rfl ?_);refine box_event ?hg (N:=4) ?hd (cs:=#[.slice none 0 0, .slice none 0 0]) (t:=27) ?hr ?_;(case hd => rfl);(case hg => rfl);(case hr => first | (go_simp;done) | (go_simp;rfl));intro gb169 hg w17 hbox hb;have n0_:=Aside0.mk (blk_below (g:=gb168) (o := .cells #[.slice A0_0 l0_0.length c0_0, .slice A0_1 l0_1.length c0_1] 27 (0,0)) (by (with_reducible repeat (first | refine blk_drewN ?_ _ | refine blk_drew ?_ | refine blk_alloc ?_ _));exact BK168.out) hb);have n1_:=Aside0.mk (below_step (by repeat (first | (with_reducible first | exact HB.out | apply below_alloc | apply pw_below_drewN | apply below_drew1 | refine below_set ?_ GE168.out) | exact HB.out)) hb);have n2_:=Aside0.mk (hbox);have n3_:=Aside0.mk ((by rw [hg];exact (below_size (by repeat (first | (with_reducible first | exact HB.out | apply below_alloc | apply pw_below_drewN | apply below_drew1 | refine below_set ?_ GE168.out) | exact HB.out))) : w.heap.size ≤ gb169));have n4_:=Aside0.mk ((by rw [hg];exact (below_size (by repeat (first | (with_reducible first | exact HB.out | apply below_alloc | apply pw_below_drewN | apply below_drew1 | refine below_set ?_ GE168.out) | exact HB.out))) : w.heap.size ≤ gb169));have n5_:=Aside0.mk ((by rw [hg];exact Nat.ne_of_lt (blk_lt (g:=gb168) (o := .cells #[.slice A0_0 l0_0.length c0_0, .slice A0_1 l0_1.length c0_1] 27 (0,0)) (by (with_reducible repeat (first | refine blk_drewN ?_ _ | refine blk_drew ?_ | refine blk_alloc ?_ _));exact BK168.out)) : gb168 ≠ gb169));have n6_:=Aside0.mk ((by rw [hg];exact Nat.ne_of_gt (blk_lt (g:=gb168) (o := .cells #[.slice A0_0 l0_0.length c0_0, .slice A0_1 l0_1.length c0_1] 27 (0,0)) (by (with_reducible repeat (first | refine blk_drewN ?_ _ | refine blk_drew ?_ | refine blk_alloc ?_ _));exact BK168.out)) : gb169 ≠ gb168));clear BK168;clear HB;have BK168:=n0_;have HB:=n1_;have BK169:=n2_;have GW169:=n3_;have GE169:=n4_;have NB168_169:=n5_;have NB169_168:=n6_;clear n0_ n1_ n2_ n3_ n4_ n5_ n6_;clear hb hbox hg;have hnb18:=NB168_169.out;have hnc18:=NB169_168.out;have hcz19_0 : w17.cell? ⟨gb168,0,none⟩ = some (.slice A0_0 l0_0.length c0_0):=(blk_cell BK168.out 0).trans rfl;have hcz19_1 : w17.cell? ⟨gb168,1,none⟩ = some (.slice A0_1 l0_1.length c0_1):=(blk_cell BK168.out 1).trans rfl;have hfz19_0:=blk_frozen BK168.out 0;have hfz19_1:=blk_frozen BK168.out 1) | ((with_reducible refine gate_callee (f:=28) rfl ?_);refine goesL_ (some 7) rfl rfl Try.func28 (by kernel_rfl) rfl #[.agg #[.slice A0_0 l0_0.length c0_0, .slice A0_1 l0_1.length c0_1]] rfl (by (try simp only [List.map_toArray,List.map_cons,List.map_nil]);first | done | rfl | (simp only [List.length_drop,List.length_take];rfl)) ?_;(with_reducible refine (spec_l18Good.calls k _ _ l0_0 _ _ l0_1 true _ ?side1 ?side2 ?side3 ?side4 A3.out).mono ?_);(case side1 => repeat (first | exact (Kd.C_below HR0_0.out HB.out) | (with_reducible refine Kd.C_alloc ?_ _) | (with_reducible refine Kd.C_drewN ?_ _) | (with_reducible refine Kd.C_drew ?_)));(case side2 => exact HC0_0.out);(case side3 => repeat (first | exact (Kd.C_below HR0_1.out HB.out) | (with_reducible refine Kd.C_alloc ?_ _) | (with_reducible refine Kd.C_drewN ?_ _) | (with_reducible refine Kd.C_drew ?_)));(case side4 => exact HC0_1.out);rintro e w20 ⟨rfl,hb⟩;refine ⟨_,rfl, ?_⟩;have n0_:=Aside0.mk (blk_below (g:=gb168) (o := .cells #[.slice A0_0 l0_0.length c0_0, .slice A0_1 l0_1.length c0_1] 27 (0,0)) (by (with_reducible repeat (first | refine blk_drewN ?_ _ | refine blk_drew ?_ | refine blk_alloc ?_ _));exact BK168.out) hb);have n1_:=Aside0.mk (blk_below (g:=gb169) (o := .cells #[.slice none 0 0, .slice none 0 0] 27 (0,0)) (by (with_reducible repeat (first | refine blk_drewN ?_ _ | refine blk_drew ?_ | refine blk_alloc ?_ _));exact BK169.out) hb);have n2_:=Aside0.mk (below_step (by repeat (first | (with_reducible first | exact HB.out | apply below_alloc | apply pw_below_drewN | apply below_drew1 | refine below_set ?_ GE168.out | refine below_set ?_ GE169.out) | exact HB.out)) hb);clear BK168;clear BK169;clear HB;have BK168:=n0_;have BK169:=n1_;have HB:=n2_;clear n0_ n1_ n2_;(try clear hb);(try clear hb2);(try clear hk);(try clear hi);have hcz21_0 : w20.cell? ⟨gb168,0,none⟩ = some (.slice A0_0 l0_0.length c0_0):=(blk_cell BK168.out 0).trans rfl;have hcz21_1 : w20.cell? ⟨gb168,1,none⟩ = some (.slice A0_1 l0_1.length c0_1):=(blk_cell BK168.out 1).trans rfl;have hfz21_0:=blk_frozen BK168.out 0;have hfz21_1:=blk_frozen BK168.out 1) | (go_at_call 29;(with_reducible refine (spec_l18Find.calls k _ _ l0_0 _ _ l0_1 a1 t171 _ ?side1 ?side2 ?side3 ?side4 A5.out).mono ?_);(case side1 => repeat (first | exact (Kd.C_below HR0_0.out HB.out) | (with_reducible refine Kd.C_alloc ?_ _) | (with_reducible refine Kd.C_drewN ?_ _) | (with_reducible refine Kd.C_drew ?_)));(case side2 => exact HC0_0.out);(case side3 => repeat (first | exact (Kd.C_below HR0_1.out HB.out) | (with_reducible refine Kd.C_alloc ?_ _) | (with_reducible refine Kd.C_drewN ?_ _) | (with_reducible refine Kd.C_drew ?_)));(case side4 => exact HC0_1.out);rintro e w22 ⟨rfl,hb⟩;have n0_:=Aside0.mk (blk_below (g:=gb168) (o := .cells #[.slice A0_0 l0_0.length c0_0, .slice A0_1 l0_1.length c0_1] 27 (0,0)) (by (with_reducible repeat (first | refine blk_drewN ?_ _ | refine blk_drew ?_ | refine blk_alloc ?_ _));exact BK168.out) hb);have n1_:=Aside0.mk (blk_below (g:=gb169) (o := .cells #[.slice none 0 0, .slice none 0 0] 27 (0,0)) (by (with_reducible repeat (first | refine blk_drewN ?_ _ | refine blk_drew ?_ | refine blk_alloc ?_ _));exact BK169.out) hb);have n2_:=Aside0.mk (below_step (by repeat (first | (with_reducible first | exact HB.out | apply below_alloc | apply pw_below_drewN | apply below_drew1 | refine below_set ?_ GE168.out | refine below_set ?_ GE169.out) | exact HB.out)) hb);clear BK168;clear BK169;clear HB;have BK168:=n0_;have BK169:=n1_;have HB:=n2_;clear n0_ n1_ n2_;(try clear hb);(try clear hb2);(try clear hk);(try clear hi);have hcz23_0 : w22.cell? ⟨gb168,0,none⟩ = some (.slice A0_0 l0_0.length c0_0):=(blk_cell BK168.out 0).trans rfl;have hcz23_1 : w22.cell? ⟨gb168,1,none⟩ = some (.slice A0_1 l0_1.length c0_1):=(blk_cell BK168.out 1).trans rfl;have hfz23_0:=blk_frozen BK168.out 0;have hfz23_1:=blk_frozen BK168.out 1) | ((with_reducible refine gate_callee (f:=30) rfl ?_);refine goesL_ (some 18) rfl rfl Try.func30 (by kernel_rfl) rfl #[.agg #[.slice A0_0 l0_0.length c0_0, .slice A0_1 l0_1.length c0_1], .int .i64 a1] rfl (by (try simp only [List.map_toArray,List.map_cons,List.map_nil]);first | done | rfl | (simp only [List.length_drop,List.length_take];rfl)) ?_;(with_reducible refine (spec_l18Cancel.calls k _ _ l0_0 _ _ l0_1 a1 t172 t175 _ ?side1 ?side2 ?side3 ?side4 A15.out).mono ?_);(case side1 => repeat (first | exact (Kd.C_below HR0_0.out HB.out) | (with_reducible refine Kd.C_alloc ?_ _) | (with_reducible refine Kd.C_drewN ?_ _) | (with_reducible refine Kd.C_drew ?_)));(case side2 => exact HC0_0.out);(case side3 => repeat (first | exact (Kd.C_below HR0_1.out HB.out) | (with_reducible refine Kd.C_alloc ?_ _) | (with_reducible refine Kd.C_drewN ?_ _) | (with_reducible refine Kd.C_drew ?_)));(case side4 => exact HC0_1.out);rintro e w24 ⟨v173,v176,rfl,ho0,ho1,hb⟩;refine ⟨_,rfl, ?_⟩;have n0_:=Aside0.mk (Kd.R_lower ho0 (below_size (by repeat (first | (with_reducible first | exact HB.out | apply below_alloc | apply pw_below_drewN | apply below_drew1 | refine below_set ?_ GE168.out | refine below_set ?_ GE169.out) | exact HB.out))));have n1_:=Aside0.mk (Kd.S_lower ho1 (below_size (by repeat (first | (with_reducible first | exact HB.out | apply below_alloc | apply pw_below_drewN | apply below_drew1 | refine below_set ?_ GE168.out | refine below_set ?_ GE169.out) | exact HB.out))));have n2_:=Aside0.mk (blk_below (g:=gb168) (o := .cells #[.slice A0_0 l0_0.length c0_0, .slice A0_1 l0_1.length c0_1] 27 (0,0)) (by (with_reducible repeat (first | refine blk_drewN ?_ _ | refine blk_drew ?_ | refine blk_alloc ?_ _));exact BK168.out) hb);have n3_:=Aside0.mk (blk_below (g:=gb169) (o := .cells #[.slice none 0 0, .slice none 0 0] 27 (0,0)) (by (with_reducible repeat (first | refine blk_drewN ?_ _ | refine blk_drew ?_ | refine blk_alloc ?_ _));exact BK169.out) hb);have n4_:=Aside0.mk (below_step (by repeat (first | (with_reducible first | exact HB.out | apply below_alloc | apply pw_below_drewN | apply below_drew1 | refine below_set ?_ GE168.out | refine below_set ?_ GE169.out) | exact HB.out)) hb);clear BK168;clear BK169;clear HB;have HO174:=n0_;have HO177:=n1_;have BK168:=n2_;have BK169:=n3_;have HB:=n4_;clear n0_ n1_ n2_ n3_ n4_;(try clear hb);(try clear hb2);(try clear hk);(try clear hi);(try clear ho0);(try clear ho1);obtain ⟨Ao25,co25,eo25⟩ := Kd.R_slice HO174.out;subst eo25;have hcz26_0 : w24.cell? ⟨gb169,0,none⟩ = some (.slice none 0 0):=(blk_cell BK169.out 0).trans rfl;have hcz26_1 : w24.cell? ⟨gb169,1,none⟩ = some (.slice none 0 0):=(blk_cell BK169.out 1).trans rfl;have hfz26_0:=blk_frozen BK169.out 0;have hfz26_1:=blk_frozen BK169.out 1;obtain ⟨Ao27,co27,eo27⟩ := Kd.S_slice HO177.out;subst eo27))
   refine bodyPost_ret (results_ct rfl _ _ gb169 27 #[.slice Ao25 t172.length co25, .slice Ao27 t175.length co27] (0,0) _ rfl (by (with_reducible repeat (first | refine blk_drewN ?_ _ | refine blk_drew ?_ | refine blk_alloc ?_ _));refine blk_put (cs:=#[.slice Ao25 t172.length co25, .slice none 0 0]) ?_ 1 _ rfl;(with_reducible repeat (first | refine blk_drewN ?_ _ | refine blk_drew ?_ | refine blk_alloc ?_ _));refine blk_put (cs:=#[.slice none 0 0, .slice none 0 0]) ?_ 0 _ rfl;(with_reducible repeat (first | refine blk_drewN ?_ _ | refine blk_drew ?_ | refine blk_alloc ?_ _));exact BK169.out) Try.underlying27 rfl (by kernel_rfl)) rfl ?_
   exact ⟨_,_,by first | rfl | (simp [errW_none,errW_some] <;> rfl) | (simp [*,errW_none,errW_some] <;> rfl),by (with_reducible repeat (first | apply Kd.R_alloc | apply Kd.R_drewN | apply Kd.R_drew));exact Kd.R_mono (Kd.R_far (p:=⟨gb169,1,none⟩) (Kd.R_far (p:=⟨gb169,0,none⟩) (Kd.R_types HO174.out BK169.out (by decide)) (fun _ hk => hk.2) (.slice Ao25 t172.length co25)) (fun _ hk => hk.2) (.slice Ao27 t175.length co27)) (fun _ hk => trivial),by (with_reducible repeat (first | apply Kd.S_alloc | apply Kd.S_drewN | apply Kd.S_drew));exact Kd.S_mono (Kd.S_far (p:=⟨gb169,1,none⟩) (Kd.S_far (p:=⟨gb169,0,none⟩) (Kd.S_types HO177.out BK169.out (by decide)) (fun _ hk => hk.2) (.slice Ao25 t172.length co25)) (fun _ hk => hk.2) (.slice Ao27 t175.length co27)) (fun _ hk => hk.1),by repeat (first | (with_reducible first | exact HB.out | apply below_alloc | apply pw_below_drewN | apply below_drew1 | refine below_set ?_ GE168.out | refine below_set ?_ GE169.out) | exact HB.out)⟩
 ·replace c4:=Bool.eq_false_iff.mpr c4
  subst c4
  have H1 : (some (([] : List Int),([] : List (List Int)),false)) = some (r1,r2,r3):=by rw [if_neg (show ¬ (false = true) by decide)] at H;exact H
  clear H
  have H:=H1
  clear H1
  simp only [Option.some.injEq,Prod.mk.injEq] at H
  obtain ⟨rfl,rfl,rfl⟩ := H
  go_enter Try.func9,Try.ntmps9
  go_wp2_with (first | ((with_reducible refine gate_dst (N:=2) rfl ?_);refine box_event ?hg (N:=2) ?hd (cs:=#[.slice A0_0 l0_0.length c0_0, .slice A0_1 l0_1.length c0_1]) (t:=27) ?hr ?_;(case hd => rfl);(case hg => rfl);(case hr => first | (go_simp;done) | (go_simp;rfl));intro gb168 hg w28 hbox hb;have n0_:=Aside0.mk (below_step (by repeat (first | (with_reducible first | exact HB.out | apply below_alloc | apply pw_below_drewN | apply below_drew1) | exact HB.out)) hb);have n1_:=Aside0.mk (hbox);have n2_:=Aside0.mk ((by rw [hg];exact (below_size (by repeat (first | (with_reducible first | exact HB.out | apply below_alloc | apply pw_below_drewN | apply below_drew1) | exact HB.out))) : w.heap.size ≤ gb168));have n3_:=Aside0.mk ((by rw [hg];exact (below_size (by repeat (first | (with_reducible first | exact HB.out | apply below_alloc | apply pw_below_drewN | apply below_drew1) | exact HB.out))) : w.heap.size ≤ gb168));clear HB;have HB:=n0_;have BK168:=n1_;have GW168:=n2_;have GE168:=n3_;clear n0_ n1_ n2_ n3_;clear hb hbox hg) | ((with_reducible refine gate_dst (N:=4) rfl ?_);refine box_event ?hg (N:=4) ?hd (cs:=#[.slice none 0 0, .slice none 0 0]) (t:=27) ?hr ?_;(case hd => rfl);(case hg => rfl);(case hr => first | (go_simp;done) | (go_simp;rfl));intro gb169 hg w29 hbox hb;have n0_:=Aside0.mk (blk_below (g:=gb168) (o := .cells #[.slice A0_0 l0_0.length c0_0, .slice A0_1 l0_1.length c0_1] 27 (0,0)) (by (with_reducible repeat (first | refine blk_drewN ?_ _ | refine blk_drew ?_ | refine blk_alloc ?_ _));exact BK168.out) hb);have n1_:=Aside0.mk (below_step (by repeat (first | (with_reducible first | exact HB.out | apply below_alloc | apply pw_below_drewN | apply below_drew1 | refine below_set ?_ GE168.out) | exact HB.out)) hb);have n2_:=Aside0.mk (hbox);have n3_:=Aside0.mk ((by rw [hg];exact (below_size (by repeat (first | (with_reducible first | exact HB.out | apply below_alloc | apply pw_below_drewN | apply below_drew1 | refine below_set ?_ GE168.out) | exact HB.out))) : w.heap.size ≤ gb169));have n4_:=Aside0.mk ((by rw [hg];exact (below_size (by repeat (first | (with_reducible first | exact HB.out | apply below_alloc | apply pw_below_drewN | apply below_drew1 | refine below_set ?_ GE168.out) | exact HB.out))) : w.heap.size ≤ gb169));have n5_:=Aside0.mk ((by rw [hg];exact Nat.ne_of_lt (blk_lt (g:=gb168) (o := .cells #[.slice A0_0 l0_0.length c0_0, .slice A0_1 l0_1.length c0_1] 27 (0,0)) (by (with_reducible repeat (first | refine blk_drewN ?_ _ | refine blk_drew ?_ | refine blk_alloc ?_ _));exact BK168.out)) : gb168 ≠ gb169));have n6_:=Aside0.mk ((by rw [hg];exact Nat.ne_of_gt (blk_lt (g:=gb168) (o := .cells #[.slice A0_0 l0_0.length c0_0, .slice A0_1 l0_1.length c0_1] 27 (0,0)) (by (with_reducible repeat (first | refine blk_drewN ?_ _ | refine blk_drew ?_ | refine blk_alloc ?_ _));exact BK168.out)) : gb169 ≠ gb168));clear BK168;clear HB;have BK168:=n0_;have HB:=n1_;have BK169:=n2_;have GW169:=n3_;have GE169:=n4_;have NB168_169:=n5_;have NB169_168:=n6_;clear n0_ n1_ n2_ n3_ n4_ n5_ n6_;clear hb hbox hg;have hnb30:=NB168_169.out;have hnc30:=NB169_168.out;have hcz31_0 : w29.cell? ⟨gb168,0,none⟩ = some (.slice A0_0 l0_0.length c0_0):=(blk_cell BK168.out 0).trans rfl;have hcz31_1 : w29.cell? ⟨gb168,1,none⟩ = some (.slice A0_1 l0_1.length c0_1):=(blk_cell BK168.out 1).trans rfl;have hfz31_0:=blk_frozen BK168.out 0;have hfz31_1:=blk_frozen BK168.out 1) | ((with_reducible refine gate_callee (f:=28) rfl ?_);refine goesL_ (some 7) rfl rfl Try.func28 (by kernel_rfl) rfl #[.agg #[.slice A0_0 l0_0.length c0_0, .slice A0_1 l0_1.length c0_1]] rfl (by (try simp only [List.map_toArray,List.map_cons,List.map_nil]);first | done | rfl | (simp only [List.length_drop,List.length_take];rfl)) ?_;(with_reducible refine (spec_l18Good.calls k _ _ l0_0 _ _ l0_1 false _ ?side1 ?side2 ?side3 ?side4 A3.out).mono ?_);(case side1 => repeat (first | exact (Kd.C_below HR0_0.out HB.out) | (with_reducible refine Kd.C_alloc ?_ _) | (with_reducible refine Kd.C_drewN ?_ _) | (with_reducible refine Kd.C_drew ?_)));(case side2 => exact HC0_0.out);(case side3 => repeat (first | exact (Kd.C_below HR0_1.out HB.out) | (with_reducible refine Kd.C_alloc ?_ _) | (with_reducible refine Kd.C_drewN ?_ _) | (with_reducible refine Kd.C_drew ?_)));(case side4 => exact HC0_1.out);rintro e w32 ⟨rfl,hb⟩;refine ⟨_,rfl, ?_⟩;have n0_:=Aside0.mk (blk_below (g:=gb168) (o := .cells #[.slice A0_0 l0_0.length c0_0, .slice A0_1 l0_1.length c0_1] 27 (0,0)) (by (with_reducible repeat (first | refine blk_drewN ?_ _ | refine blk_drew ?_ | refine blk_alloc ?_ _));exact BK168.out) hb);have n1_:=Aside0.mk (blk_below (g:=gb169) (o := .cells #[.slice none 0 0, .slice none 0 0] 27 (0,0)) (by (with_reducible repeat (first | refine blk_drewN ?_ _ | refine blk_drew ?_ | refine blk_alloc ?_ _));exact BK169.out) hb);have n2_:=Aside0.mk (below_step (by repeat (first | (with_reducible first | exact HB.out | apply below_alloc | apply pw_below_drewN | apply below_drew1 | refine below_set ?_ GE168.out | refine below_set ?_ GE169.out) | exact HB.out)) hb);clear BK168;clear BK169;clear HB;have BK168:=n0_;have BK169:=n1_;have HB:=n2_;clear n0_ n1_ n2_;(try clear hb);(try clear hb2);(try clear hk);(try clear hi);have hcz33_0 : w32.cell? ⟨gb169,0,none⟩ = some (.slice none 0 0):=(blk_cell BK169.out 0).trans rfl;have hcz33_1 : w32.cell? ⟨gb169,1,none⟩ = some (.slice none 0 0):=(blk_cell BK169.out 1).trans rfl;have hfz33_0:=blk_frozen BK169.out 0;have hfz33_1:=blk_frozen BK169.out 1))
  refine bodyPost_ret (results_ct rfl _ _ gb169 27 #[.slice none 0 0, .slice none 0 0] (0,0) _ rfl (by (with_reducible repeat (first | refine blk_drewN ?_ _ | refine blk_drew ?_ | refine blk_alloc ?_ _));refine blk_put (cs:=#[.slice none 0 0, .slice none 0 0]) ?_ 1 _ rfl;(with_reducible repeat (first | refine blk_drewN ?_ _ | refine blk_drew ?_ | refine blk_alloc ?_ _));refine blk_put (cs:=#[.slice none 0 0, .slice none 0 0]) ?_ 0 _ rfl;(with_reducible repeat (first | refine blk_drewN ?_ _ | refine blk_drew ?_ | refine blk_alloc ?_ _));exact BK169.out) Try.underlying27 rfl (by kernel_rfl)) rfl ?_
  exact ⟨_,_,by first | rfl | (simp [errW_none,errW_some] <;> rfl) | (simp [*,errW_none,errW_some] <;> rfl),by first | exact Kd.R_nil _ _ _ _ _ | exact Kd.N_nil _ _ _ _ _ | exact Kd.V_nil _ _ _ _ _ | exact Kd.Q_nil _ _ _ _ _ | exact Kd.S_nil _ _ _ _ _,by first | exact Kd.S_nil _ _ _ _ _ | exact Kd.N_nil _ _ _ _ _ | exact Kd.V_nil _ _ _ _ _ | exact Kd.Q_nil _ _ _ _ _ | exact Kd.R_nil _ _ _ _ _,by repeat (first | (with_reducible first | exact HB.out | apply below_alloc | apply pw_below_drewN | apply below_drew1 | refine below_set ?_ GE168.out | refine below_set ?_ GE169.out) | exact HB.out)⟩

end Go.Proofs.Ytcpoiklimbfppaa.PFnExactCancelTruck
