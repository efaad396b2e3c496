-- Written by a program of this session, over the kit's print (wip/xprint.py)
import Derived.Test.YtafdafmoiocjgaaPFnChargesx0
import Derived.Test.YtafdafmoiocjgaaPFnChargesx4
import Derived.Test.YtafdafmoiocjgaaPFnChargesx5
namespace Go.Proofs.Ytafdafmoiocjgaa.PFnCharges
open Go.RowKit Go.Proofs.YtafdafmoiocjgaaW.PrintWords Go.Proofs.YtafdafmoiocjgaaW.PrintLast Go.Proofs.YtafdafmoiocjgaaW.PrintMore
attribute [local go_sem] max2_int min2_int max_two min_two max_three min_three max_four min_four   -- for this text's walks alone
set_option linter.unusedVariables false
set_option linter.unusedSimpArgs false

/-! ### spec_StepOn: function 27 -/
def spec_StepOn.f (k : Nat) (a0_0 : Int) (l0_1 : List (S51)) (a0_2 : Int) (a1 : Int) : Option (Int × Bool):=(spec_l22Good.f k a0_0 l0_1 a0_2).bind fun t363 => (if t363 = true then ((spec_l1In.f a1 1 400).bind fun t364 => (if t364 = true then ((spec_l22Step.f k a0_0 l0_1 a0_2 a1).bind fun t365 => (some (t365,true))) else (some (0,false)))) else (some (0,false)))
theorem spec_StepOn.mono : ∀ a0 a1 a2 a3 k,LeO (spec_StepOn.f k a0 a1 a2 a3) (spec_StepOn.f (k + 1) a0 a1 a2 a3):=by
 intro a0 a1 a2 a3 k
 unfold spec_StepOn.f
 repeat' first
   | (with_reducible exact spec_l22Good.mono _ _ _ _)
   | (with_reducible exact spec_l22Step.mono _ _ _ _ _)
   | (with_reducible exact LeO.refl _)
   | (with_reducible exact LeO.none _)
   | (with_reducible refine LeO.ite ?_ ?_)
   | (with_reducible refine LeO.bind ?_ (fun _ => ?_))
   | exact spec_l22Good.mono _ _ _ _
   | exact spec_l22Step.mono _ _ _ _ _
   | exact LeO.none _
   | refine LeO.ite ?_ ?_
   | refine LeO.bind ?_ (fun _ => ?_)
set_option maxHeartbeats 8000000 in
set_option maxRecDepth 100000 in
theorem spec_StepOn.calls (k : Nat) (a0_0 : Int) (A0_1 : Option Addr) (c0_1 : Nat) (l0_1 : List (S51)) (a0_2 : Int) (a1 : Int) (r1 : Int) (r2 : Bool) (w : World) (hr0_1 : Kd.C k51 w A0_1 l0_1.length l0_1) (hc0_1 : l0_1.length ≤ c0_1) (h : spec_StepOn.f k a0_0 l0_1 a0_2 a1 = some (r1,r2)) :
  Calls Try.prog 27 #[.agg #[.int .i64 a0_0, .slice A0_1 l0_1.length c0_1, .int .i64 a0_2], .int .i64 a1] w fun e w' => e = .returned (.tuple #[.int .i64 r1, .bool r2]) ∧ Below w.heap.size w w':=by
 have hu38:=Try.underlying38
 have HR0_1:=Aside0.mk hr0_1
 have HC0_1:=Aside0.mk hc0_1
 clear hr0_1 hc0_1
 have HB:=Aside0.mk (Below.refl w.heap.size w)
 have H : ((spec_l22Good.f k a0_0 l0_1 a0_2).bind fun t363 => (if t363 = true then ((spec_l1In.f a1 1 400).bind fun t364 => (if t364 = true then ((spec_l22Step.f k a0_0 l0_1 a0_2 a1).bind fun t365 => (some (t365,true))) else (some (0,false)))) else (some (0,false)))) = some (r1,r2):=h
 clear h
 replace H:=Option.bind_eq_some_iff.mp H
 obtain ⟨t363,A30,H⟩ := H
 replace H : (if t363 = true then ((spec_l1In.f a1 1 400).bind fun t364 => (if t364 = true then ((spec_l22Step.f k a0_0 l0_1 a0_2 a1).bind fun t365 => (some (t365,true))) else (some (0,false)))) else (some (0,false))) = some (r1,r2):=H
 have A3:=Aside0.mk A30
 clear A30
 by_cases c4 : t363 = true
 ·subst c4
  have H1 : ((spec_l1In.f a1 1 400).bind fun t364 => (if t364 = true then ((spec_l22Step.f k a0_0 l0_1 a0_2 a1).bind fun t365 => (some (t365,true))) else (some (0,false)))) = some (r1,r2):=by rw [if_pos rfl] at H;exact H
  clear H
  have H:=H1
  clear H1
  replace H:=Option.bind_eq_some_iff.mp H
  obtain ⟨t364,A50,H⟩ := H
  replace H : (if t364 = true then ((spec_l22Step.f k a0_0 l0_1 a0_2 a1).bind fun t365 => (some (t365,true))) else (some (0,false))) = some (r1,r2):=H
  have A5:=Aside0.mk A50
  clear A50
  by_cases c6 : t364 = true
  ·subst c6
   have H1 : ((spec_l22Step.f k a0_0 l0_1 a0_2 a1).bind fun t365 => (some (t365,true))) = some (r1,r2):=by rw [if_pos rfl] at H;exact H
   clear H
   have H:=H1
   clear H1
   replace H:=Option.bind_eq_some_iff.mp H
   obtain ⟨t365,A70,H⟩ := H
   replace H : (some (t365,true)) = some (r1,r2):=H
   have A7:=Aside0.mk A70
   clear A70
   simp only [Option.some.injEq,Prod.mk.injEq] at H
   obtain ⟨rfl,rfl⟩ := H
   go_enter Try.func27,Try.ntmps27
   go_wp2_with (first | ((with_reducible refine gate_dst (N:=2) rfl ?_);refine box_event ?hg (N:=2) ?hd (cs:=#[.int .i64 a0_0, .slice A0_1 l0_1.length c0_1, .int .i64 a0_2]) (t:=38) ?hr ?_;(case hd => rfl);(case hg => rfl);(case hr => (go_simp;done));intro gb362 hg w8 hbox hb;have n0_:=Aside0.mk (below_step (by exact HB.out) hb);have n1_:=Aside0.mk (hbox);have n2_:=Aside0.mk ((by rw [hg];exact (below_size (by exact HB.out)) : w.heap.size ≤ gb362));have n3_:=Aside0.mk ((by rw [hg];exact (below_size (by exact HB.out)) : w.heap.size ≤ gb362));clear HB;have HB:=n0_;have BK362:=n1_;have GW362:=n2_;have GE362:=n3_;clear n0_ n1_ n2_ n3_;clear hb hbox hg;have hcz9_0 : w8.cell? ⟨gb362,0,none⟩ = some (.int .i64 a0_0):=(blk_cell BK362.out 0).trans rfl;have hcz9_1 : w8.cell? ⟨gb362,1,none⟩ = some (.slice A0_1 l0_1.length c0_1):=(blk_cell BK362.out 1).trans rfl;have hcz9_2 : w8.cell? ⟨gb362,2,none⟩ = some (.int .i64 a0_2):=(blk_cell BK362.out 2).trans rfl;have hfz9_0:=blk_frozen BK362.out 0;have hfz9_1:=blk_frozen BK362.out 1;have hfz9_2:=blk_frozen BK362.out 2) | ((with_reducible refine gate_callee (f:=54) rfl ?_);refine goesL_ (some 7) rfl rfl Try.func54 (by kernel_rfl) rfl #[.agg #[.int .i64 a0_0, .slice A0_1 l0_1.length c0_1, .int .i64 a0_2]] rfl (by (try simp only [List.map_toArray,List.map_cons,List.map_nil]);rfl) ?_;(with_reducible refine (spec_l22Good.calls k a0_0 _ _ l0_1 a0_2 true _ ?side1 ?side2 A3.out).mono ?_);(case side1 => repeat (exact (Kd.C_below HR0_1.out HB.out)));(case side2 => exact HC0_1.out);rintro e w10 ⟨rfl,hb⟩;refine ⟨_,rfl, ?_⟩;have n0_:=Aside0.mk (blk_below (g:=gb362) (o := .cells #[.int .i64 a0_0, .slice A0_1 l0_1.length c0_1, .int .i64 a0_2] 38 (0,0)) (by exact BK362.out) hb);have n1_:=Aside0.mk (below_step (by exact HB.out) hb);clear BK362;clear HB;have BK362:=n0_;have HB:=n1_;clear n0_ n1_;(try clear hb)) | (go_at_call 41;(with_reducible refine (spec_l1In.calls a1 1 400 true _ A5.out).mono ?_);rintro e w' ⟨rfl,⟨nd,rfl⟩⟩;have hcz11_0 : w10.cell? ⟨gb362,0,none⟩ = some (.int .i64 a0_0):=(blk_cell BK362.out 0).trans rfl;have hcz11_1 : w10.cell? ⟨gb362,1,none⟩ = some (.slice A0_1 l0_1.length c0_1):=(blk_cell BK362.out 1).trans rfl;have hcz11_2 : w10.cell? ⟨gb362,2,none⟩ = some (.int .i64 a0_2):=(blk_cell BK362.out 2).trans rfl;have hfz11_0:=blk_frozen BK362.out 0;have hfz11_1:=blk_frozen BK362.out 1;have hfz11_2:=blk_frozen BK362.out 2) | ((with_reducible refine gate_callee (f:=56) rfl ?_);refine goesL_ (some 16) rfl rfl Try.func56 (by kernel_rfl) rfl #[.agg #[.int .i64 a0_0, .slice A0_1 l0_1.length c0_1, .int .i64 a0_2], .int .i64 a1] rfl (by (try simp only [List.map_toArray,List.map_cons,List.map_nil]);rfl) ?_;(with_reducible refine (spec_l22Step.calls k a0_0 _ _ l0_1 a0_2 a1 t365 _ ?side1 ?side2 A7.out).mono ?_);(case side1 => repeat (exact (Kd.C_below HR0_1.out (by repeat ((with_reducible first | exact HB.out | apply pw_below_drewN))))));(case side2 => exact HC0_1.out);rintro e w12 ⟨rfl,hb⟩;refine ⟨_,rfl, ?_⟩;have n0_:=Aside0.mk (blk_below (g:=gb362) (o := .cells #[.int .i64 a0_0, .slice A0_1 l0_1.length c0_1, .int .i64 a0_2] 38 (0,0)) (by (with_reducible repeat (refine blk_drewN ?_ _));exact BK362.out) hb);have n1_:=Aside0.mk (below_step (by repeat ((with_reducible first | exact HB.out | apply pw_below_drewN))) hb);clear BK362;clear HB;have BK362:=n0_;have HB:=n1_;clear n0_ n1_;(try clear hb)))
   go_ret2
   exact ⟨by rfl,by exact HB.out⟩
  ·replace c6:=Bool.eq_false_iff.mpr c6
   subst c6
   have H1 : (some (0,false)) = some (r1,r2):=by rw [if_neg (show ¬ (false = true) by decide)] at H;exact H
   clear H
   have H:=H1
   clear H1
   simp only [Option.some.injEq,Prod.mk.injEq] at H
   obtain ⟨rfl,rfl⟩ := H
   go_enter Try.func27,Try.ntmps27
   go_wp2_with (first | ((with_reducible refine gate_dst (N:=2) rfl ?_);refine box_event ?hg (N:=2) ?hd (cs:=#[.int .i64 a0_0, .slice A0_1 l0_1.length c0_1, .int .i64 a0_2]) (t:=38) ?hr ?_;(case hd => rfl);(case hg => rfl);(case hr => (go_simp;done));intro gb362 hg w13 hbox hb;have n0_:=Aside0.mk (below_step (by exact HB.out) hb);have n1_:=Aside0.mk (hbox);have n2_:=Aside0.mk ((by rw [hg];exact (below_size (by exact HB.out)) : w.heap.size ≤ gb362));have n3_:=Aside0.mk ((by rw [hg];exact (below_size (by exact HB.out)) : w.heap.size ≤ gb362));clear HB;have HB:=n0_;have BK362:=n1_;have GW362:=n2_;have GE362:=n3_;clear n0_ n1_ n2_ n3_;clear hb hbox hg;have hcz14_0 : w13.cell? ⟨gb362,0,none⟩ = some (.int .i64 a0_0):=(blk_cell BK362.out 0).trans rfl;have hcz14_1 : w13.cell? ⟨gb362,1,none⟩ = some (.slice A0_1 l0_1.length c0_1):=(blk_cell BK362.out 1).trans rfl;have hcz14_2 : w13.cell? ⟨gb362,2,none⟩ = some (.int .i64 a0_2):=(blk_cell BK362.out 2).trans rfl;have hfz14_0:=blk_frozen BK362.out 0;have hfz14_1:=blk_frozen BK362.out 1;have hfz14_2:=blk_frozen BK362.out 2) | ((with_reducible refine gate_callee (f:=54) rfl ?_);refine goesL_ (some 7) rfl rfl Try.func54 (by kernel_rfl) rfl #[.agg #[.int .i64 a0_0, .slice A0_1 l0_1.length c0_1, .int .i64 a0_2]] rfl (by (try simp only [List.map_toArray,List.map_cons,List.map_nil]);rfl) ?_;(with_reducible refine (spec_l22Good.calls k a0_0 _ _ l0_1 a0_2 true _ ?side1 ?side2 A3.out).mono ?_);(case side1 => repeat (exact (Kd.C_below HR0_1.out HB.out)));(case side2 => exact HC0_1.out);rintro e w15 ⟨rfl,hb⟩;refine ⟨_,rfl, ?_⟩;have n0_:=Aside0.mk (blk_below (g:=gb362) (o := .cells #[.int .i64 a0_0, .slice A0_1 l0_1.length c0_1, .int .i64 a0_2] 38 (0,0)) (by exact BK362.out) hb);have n1_:=Aside0.mk (below_step (by exact HB.out) hb);clear BK362;clear HB;have BK362:=n0_;have HB:=n1_;clear n0_ n1_;(try clear hb)) | (go_at_call 41;(with_reducible refine (spec_l1In.calls a1 1 400 false _ A5.out).mono ?_);rintro e w' ⟨rfl,⟨nd,rfl⟩⟩))
   go_ret2
   exact ⟨by rfl,by repeat ((with_reducible first | exact HB.out | apply pw_below_drewN))⟩
 ·replace c4:=Bool.eq_false_iff.mpr c4
  subst c4
  have H1 : (some (0,false)) = some (r1,r2):=by rw [if_neg (show ¬ (false = true) by decide)] at H;exact H
  clear H
  have H:=H1
  clear H1
  simp only [Option.some.injEq,Prod.mk.injEq] at H
  obtain ⟨rfl,rfl⟩ := H
  go_enter Try.func27,Try.ntmps27
  go_wp2_with (first | ((with_reducible refine gate_dst (N:=2) rfl ?_);refine box_event ?hg (N:=2) ?hd (cs:=#[.int .i64 a0_0, .slice A0_1 l0_1.length c0_1, .int .i64 a0_2]) (t:=38) ?hr ?_;(case hd => rfl);(case hg => rfl);(case hr => (go_simp;done));intro gb362 hg w16 hbox hb;have n0_:=Aside0.mk (below_step (by exact HB.out) hb);have n1_:=Aside0.mk (hbox);have n2_:=Aside0.mk ((by rw [hg];exact (below_size (by exact HB.out)) : w.heap.size ≤ gb362));have n3_:=Aside0.mk ((by rw [hg];exact (below_size (by exact HB.out)) : w.heap.size ≤ gb362));clear HB;have HB:=n0_;have BK362:=n1_;have GW362:=n2_;have GE362:=n3_;clear n0_ n1_ n2_ n3_;clear hb hbox hg;have hcz17_0 : w16.cell? ⟨gb362,0,none⟩ = some (.int .i64 a0_0):=(blk_cell BK362.out 0).trans rfl;have hcz17_1 : w16.cell? ⟨gb362,1,none⟩ = some (.slice A0_1 l0_1.length c0_1):=(blk_cell BK362.out 1).trans rfl;have hcz17_2 : w16.cell? ⟨gb362,2,none⟩ = some (.int .i64 a0_2):=(blk_cell BK362.out 2).trans rfl;have hfz17_0:=blk_frozen BK362.out 0;have hfz17_1:=blk_frozen BK362.out 1;have hfz17_2:=blk_frozen BK362.out 2) | ((with_reducible refine gate_callee (f:=54) rfl ?_);refine goesL_ (some 7) rfl rfl Try.func54 (by kernel_rfl) rfl #[.agg #[.int .i64 a0_0, .slice A0_1 l0_1.length c0_1, .int .i64 a0_2]] rfl (by (try simp only [List.map_toArray,List.map_cons,List.map_nil]);rfl) ?_;(with_reducible refine (spec_l22Good.calls k a0_0 _ _ l0_1 a0_2 false _ ?side1 ?side2 A3.out).mono ?_);(case side1 => repeat (exact (Kd.C_below HR0_1.out HB.out)));(case side2 => exact HC0_1.out);rintro e w18 ⟨rfl,hb⟩;refine ⟨_,rfl, ?_⟩;have n0_:=Aside0.mk (blk_below (g:=gb362) (o := .cells #[.int .i64 a0_0, .slice A0_1 l0_1.length c0_1, .int .i64 a0_2] 38 (0,0)) (by exact BK362.out) hb);have n1_:=Aside0.mk (below_step (by exact HB.out) hb);clear BK362;clear HB;have BK362:=n0_;have HB:=n1_;clear n0_ n1_;(try clear hb)))
  go_ret2
  exact ⟨by rfl,by exact HB.out⟩

end Go.Proofs.Ytafdafmoiocjgaa.PFnCharges
