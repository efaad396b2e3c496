-- Written by a program of this session, over the kit's print (wip/xprint.py)
import Derived.Test.YtafdafmoiocjgaaPFnChargesx0
import Derived.Test.YtafdafmoiocjgaaPFnChargesx1
import Derived.Test.YtafdafmoiocjgaaPFnChargesx2
import Derived.Test.YtafdafmoiocjgaaPFnChargesx3
import Derived.Test.YtafdafmoiocjgaaPFnChargesx4
namespace Go.Proofs.Ytafdafmoiocjgaa.PFnCharges
open Go.RowKit Go.Proofs.YtafdafmoiocjgaaW.PrintWords Go.Proofs.YtafdafmoiocjgaaW.PrintLast Go.Proofs.YtafdafmoiocjgaaW.PrintMore
attribute [local go_sem] max2_int min2_int max_two min_two max_three min_three max_four min_four   -- for this text's walks alone
set_option linter.unusedVariables false
set_option linter.unusedSimpArgs false

/-! ### spec_DrawLongestStay: function 20 -/
def spec_DrawLongestStay.f (k : Nat) (l0 : List Int) : Option (Int × (List (S51)) × Int × Int × Int):=(spec_l1Cur_charge.f k l0 0 0).bind fun bt302 => ((spec_l1Cur_size22.f l0 bt302.2.2.2.1 bt302.2.2.2.2).bind fun bt310 => ((some (([0,1,99,1000,30000,10000000,(-1),10000001] : List Int) : List Int)).bind fun y313 => ((spec_l1Cur_pick.f l0 bt310.2.1 bt310.2.2 24).bind fun bt316 => (if 0 ≤ (wrap64 (6 + (wrap64 (Int.tdiv bt316.1 11)))) then (if (wrap64 (6 + (wrap64 (Int.tdiv bt316.1 11)))) ≤ (y313.length : Int) then ((spec_l1Cur_among.f l0 bt316.2.1 bt316.2.2 (y313.take ((wrap64 (6 + (wrap64 (Int.tdiv bt316.1 11)))) : Int).toNat)).bind fun bt323 => (some (bt302.1,bt302.2.1,bt302.2.2.1,bt310.1,bt323.1))) else (none)) else (none)))))
theorem spec_DrawLongestStay.mono : ∀ a0 k,LeO (spec_DrawLongestStay.f k a0) (spec_DrawLongestStay.f (k + 1) a0):=by
 intro a0 k
 unfold spec_DrawLongestStay.f
 repeat' first
   | (with_reducible exact spec_l1Cur_charge.mono _ _ _ _)
   | (with_reducible exact LeO.refl _)
   | (with_reducible exact LeO.none _)
   | (with_reducible refine LeO.ite ?_ ?_)
   | (with_reducible refine LeO.bind ?_ (fun _ => ?_))
   | exact spec_l1Cur_charge.mono _ _ _ _
   | exact LeO.none _
   | refine LeO.ite ?_ ?_
   | refine LeO.bind ?_ (fun _ => ?_)
def spec_DrawLongestStay.T3 : Bool × List (List Nat × List Nat):=(true,[([],[]),([],[]),([1],[1]),([],[]),([],[]),([],[]),([5,2],[5]),([6],[6]),([7],[7]),([4,8],[4,8]),([3,9,6],[3,9]),([0,10,0],[0]),([2,11,0,1,2,11],[2]),([10,12,0,1,2,3,4,5,6,7,8,9,10,11,12],[10])])
def spec_DrawLongestStay.B3 : List Nat := [0,0,2,0,0,0,38,102,230,502,1022,2047,4095,8191]
theorem spec_DrawLongestStay.tab3 : rtab .any (opsOf Try.f20 3) = spec_DrawLongestStay.T3:=by kernel_rfl
theorem spec_DrawLongestStay.bits3 : waitsOk spec_DrawLongestStay.T3.2 spec_DrawLongestStay.B3 = true:=by kernel_rfl
set_option maxHeartbeats 8000000 in
set_option maxRecDepth 100000 in
theorem spec_DrawLongestStay.calls (k : Nat) (A0 : Option Addr) (c0 : Nat) (l0 : List Int) (r1 : Int) (r2 : List (S51)) (r3 : Int) (r4 : Int) (r5 : Int) (w : World) (hr0 : Kd.C (Kd.int .u8) w A0 l0.length l0) (hc0 : l0.length ≤ c0) (h : spec_DrawLongestStay.f k l0 = some (r1,r2,r3,r4,r5)) :
  Calls Try.prog 20 #[.slice A0 l0.length c0] w fun e w' => ∃ v1_ : Value,e = .returned (.tuple #[.agg #[.int .i64 r1,v1_, .int .i64 r3], .int .i64 r4, .int .i64 r5]) ∧ Kd.R k51 51 w' w.heap.size (fun _ => True) v1_ r2 ∧ Below w.heap.size w w':=by
 have hu38:=Try.underlying38
 have hu58:=Try.underlying58
 have HR0:=Aside0.mk hr0
 have HC0:=Aside0.mk hc0
 clear hr0 hc0
 have HB:=Aside0.mk (Below.refl w.heap.size w)
 have H : ((spec_l1Cur_charge.f k l0 0 0).bind fun bt302 => ((spec_l1Cur_size22.f l0 bt302.2.2.2.1 bt302.2.2.2.2).bind fun bt310 => ((some (([0,1,99,1000,30000,10000000,(-1),10000001] : List Int) : List Int)).bind fun y313 => ((spec_l1Cur_pick.f l0 bt310.2.1 bt310.2.2 24).bind fun bt316 => (if 0 ≤ (wrap64 (6 + (wrap64 (Int.tdiv bt316.1 11)))) then (if (wrap64 (6 + (wrap64 (Int.tdiv bt316.1 11)))) ≤ (y313.length : Int) then ((spec_l1Cur_among.f l0 bt316.2.1 bt316.2.2 (y313.take ((wrap64 (6 + (wrap64 (Int.tdiv bt316.1 11)))) : Int).toNat)).bind fun bt323 => (some (bt302.1,bt302.2.1,bt302.2.2.1,bt310.1,bt323.1))) else (none)) else (none)))))) = some (r1,r2,r3,r4,r5):=h
 clear h
 replace H:=Option.bind_eq_some_iff.mp H
 obtain ⟨⟨t302,t303,t306,t307,t308⟩,A20,H⟩ := H
 replace H : ((spec_l1Cur_size22.f l0 t307 t308).bind fun bt310 => ((some (([0,1,99,1000,30000,10000000,(-1),10000001] : List Int) : List Int)).bind fun y313 => ((spec_l1Cur_pick.f l0 bt310.2.1 bt310.2.2 24).bind fun bt316 => (if 0 ≤ (wrap64 (6 + (wrap64 (Int.tdiv bt316.1 11)))) then (if (wrap64 (6 + (wrap64 (Int.tdiv bt316.1 11)))) ≤ (y313.length : Int) then ((spec_l1Cur_among.f l0 bt316.2.1 bt316.2.2 (y313.take ((wrap64 (6 + (wrap64 (Int.tdiv bt316.1 11)))) : Int).toNat)).bind fun bt323 => (some (t302,t303,t306,bt310.1,bt323.1))) else (none)) else (none))))) = some (r1,r2,r3,r4,r5):=H
 have A2:=Aside0.mk A20
 clear A20
 replace H:=Option.bind_eq_some_iff.mp H
 obtain ⟨⟨t310,t311,t312⟩,A30,H⟩ := H
 replace H : ((some (([0,1,99,1000,30000,10000000,(-1),10000001] : List Int) : List Int)).bind fun y313 => ((spec_l1Cur_pick.f l0 t311 t312 24).bind fun bt316 => (if 0 ≤ (wrap64 (6 + (wrap64 (Int.tdiv bt316.1 11)))) then (if (wrap64 (6 + (wrap64 (Int.tdiv bt316.1 11)))) ≤ (y313.length : Int) then ((spec_l1Cur_among.f l0 bt316.2.1 bt316.2.2 (y313.take ((wrap64 (6 + (wrap64 (Int.tdiv bt316.1 11)))) : Int).toNat)).bind fun bt323 => (some (t302,t303,t306,t310,bt323.1))) else (none)) else (none)))) = some (r1,r2,r3,r4,r5):=H
 have A3:=Aside0.mk A30
 clear A30
 obtain ⟨y313,hy313⟩ : ∃ y_ : List Int,y_ = (([0,1,99,1000,30000,10000000,(-1),10000001] : List Int)):=⟨_,rfl⟩
 replace H : ((spec_l1Cur_pick.f l0 t311 t312 24).bind fun bt316 => (if 0 ≤ (wrap64 (6 + (wrap64 (Int.tdiv bt316.1 11)))) then (if (wrap64 (6 + (wrap64 (Int.tdiv bt316.1 11)))) ≤ (y313.length : Int) then ((spec_l1Cur_among.f l0 bt316.2.1 bt316.2.2 (y313.take ((wrap64 (6 + (wrap64 (Int.tdiv bt316.1 11)))) : Int).toNat)).bind fun bt323 => (some (t302,t303,t306,t310,bt323.1))) else (none)) else (none))) = some (r1,r2,r3,r4,r5):=by (have H2_:=(Option.bind_some _ _).symm.trans H;rw [hy313];with_reducible exact H2_)
 have Ny313:=Aside0.mk hy313
 clear hy313
 replace H:=Option.bind_eq_some_iff.mp H
 obtain ⟨⟨t316,t317,t318⟩,A40,H⟩ := H
 replace H : (if 0 ≤ (wrap64 (6 + (wrap64 (Int.tdiv t316 11)))) then (if (wrap64 (6 + (wrap64 (Int.tdiv t316 11)))) ≤ (y313.length : Int) then ((spec_l1Cur_among.f l0 t317 t318 (y313.take ((wrap64 (6 + (wrap64 (Int.tdiv t316 11)))) : Int).toNat)).bind fun bt323 => (some (t302,t303,t306,t310,bt323.1))) else (none)) else (none)) = some (r1,r2,r3,r4,r5):=H
 have A4:=Aside0.mk A40
 clear A40
 obtain ⟨ji5,hji5⟩ : ∃ j_ : Int,(wrap64 (6 + (wrap64 (Int.tdiv t316 11)))) = j_:=⟨_,rfl⟩
 replace H : (if 0 ≤ (ji5) then (if (ji5) ≤ (y313.length : Int) then ((spec_l1Cur_among.f l0 t317 t318 (y313.take ((ji5) : Int).toNat)).bind fun bt323 => (some (t302,t303,t306,t310,bt323.1))) else (none)) else (none)) = some (r1,r2,r3,r4,r5):=by (rw [hji5] at H;exact H)
 (skip)
 (skip)
 (skip)
 have hji5w : (IntKind.i64.wrap (6 + (wrap64 (Int.tdiv t316 11)))) = ji5:=(i64_w _).trans hji5
 by_cases c6 : 0 ≤ (ji5)
 ·rw [if_pos c6] at H
  have c6b0:=eq_true c6
  have c6b1 : decide (0 ≤ (ji5)) = true:=decide_eq_true c6
  clear c6
  by_cases c7 : (ji5) ≤ (y313.length : Int)
  ·rw [if_pos c7] at H
   have c7b0:=eq_true c7
   have c7b1 : decide ((ji5) ≤ (y313.length : Int)) = true:=decide_eq_true c7
   clear c7
   obtain ⟨y319,hy319⟩ : ∃ y_ : List Int,y_ = (y313.take ((ji5) : Int).toNat):=⟨_,rfl⟩
   replace H : ((spec_l1Cur_among.f l0 t317 t318 y319).bind fun bt323 => (some (t302,t303,t306,t310,bt323.1))) = some (r1,r2,r3,r4,r5):=by (rw [hy319];with_reducible exact H)
   have Ny319:=Aside0.mk hy319
   clear hy319
   replace H:=Option.bind_eq_some_iff.mp H
   obtain ⟨⟨t323,t324,t325⟩,A80,H⟩ := H
   replace H : (some (t302,t303,t306,t310,t323)) = some (r1,r2,r3,r4,r5):=H
   have A8:=Aside0.mk A80
   clear A80
   simp only [Option.some.injEq,Prod.mk.injEq] at H
   obtain ⟨rfl,rfl,rfl,rfl,rfl⟩ := H
   go_enter Try.func20,Try.ntmps20
   try go_wp2_with (first | ((with_reducible refine gate_dst (N:=2) rfl ?_);refine box_event ?hg (N:=2) ?hd (cs:=#[.int .i64 0, .slice none 0 0, .int .i64 0]) (t:=38) ?hr ?_;(case hd => rfl);(case hg => rfl);(case hr => (go_simp;done));intro gb300 hg w9 hbox hb;have n0_:=Aside0.mk (below_step (by exact HB.out) hb);have n1_:=Aside0.mk (hbox);have n2_:=Aside0.mk ((by rw [hg];exact (below_size (by exact HB.out)) : w.heap.size ≤ gb300));have n3_:=Aside0.mk ((by rw [hg];exact (below_size (by exact HB.out)) : w.heap.size ≤ gb300));clear HB;have HB:=n0_;have BK300:=n1_;have GW300:=n2_;have GE300:=n3_;clear n0_ n1_ n2_ n3_;clear hb hbox hg) | ((with_reducible refine gate_dst (N:=9) rfl ?_);refine box_event ?hg (N:=9) ?hd (cs:=#[.slice A0 l0.length c0, .int .i64 0, .int .u64 0]) (t:=58) ?hr ?_;(case hd => rfl);(case hg => rfl);(case hr => (go_simp;done));intro gb301 hg w10 hbox hb;have n0_:=Aside0.mk (blk_below (g:=gb300) (o := .cells #[.int .i64 0, .slice none 0 0, .int .i64 0] 38 (0,0)) (by exact BK300.out) hb);have n1_:=Aside0.mk (below_step (by exact HB.out) hb);have n2_:=Aside0.mk ((by rw [hg];exact Nat.ne_of_lt (blk_lt (g:=gb300) (o := .cells #[.int .i64 0, .slice none 0 0, .int .i64 0] 38 (0,0)) (by exact BK300.out)) : gb300 ≠ gb301));have n3_:=Aside0.mk ((by rw [hg];exact Nat.ne_of_gt (blk_lt (g:=gb300) (o := .cells #[.int .i64 0, .slice none 0 0, .int .i64 0] 38 (0,0)) (by exact BK300.out)) : gb301 ≠ gb300));have n4_:=Aside0.mk ((show IsS58 w _ gb301 l0 0 0 from ⟨_,_,hbox,(by rw [hg];exact (below_size (by exact HB.out)) : w.heap.size ≤ gb301),HR0.out⟩));clear BK300;clear HB;have BK300:=n0_;have HB:=n1_;have NB300_301:=n2_;have NB301_300:=n3_;have HI301:=n4_;clear n0_ n1_ n2_ n3_ n4_;clear hb hbox hg) | ((with_reducible refine gate_callee (f:=43) rfl ?_);refine goesL_ (some 11) rfl rfl Try.func43 (by kernel_rfl) rfl #[.pointer (some ⟨gb301,0,none⟩)] rfl (by (try simp only [List.map_toArray,List.map_cons,List.map_nil]);rfl) ?_;(with_reducible refine (spec_l1Cur_charge.calls k gb301 l0 0 0 t302 t303 t306 t307 t308 w _ ?side1 ?side2 A2.out).mono ?_);(case side1 => exact HI301.out);(case side2 => exact HB.out);rintro e w11 ⟨v304,rfl,ho0,hi,hb,hk⟩;refine ⟨_,rfl, ?_⟩;have n0_:=Aside0.mk (KeepBut.blk hk (g':=gb300) (o := .cells #[.int .i64 0, .slice none 0 0, .int .i64 0] 38 (0,0)) (by exact BK300.out) NB300_301.out (by simp));have n1_:=Aside0.mk (Kd.R_lower ho0 (below_size (by exact HB.out)));have n2_:=Aside0.mk (hb);have n3_:=Aside0.mk (hi);clear BK300;clear HB;clear HI301;have BK300:=n0_;have HO305:=n1_;have HB:=n2_;have HI301:=n3_;clear n0_ n1_ n2_ n3_;(try clear hb);(try clear hk);(try clear hi);(try clear ho0)) | ((with_reducible refine gate_dst (N:=6) rfl ?_);refine box_event ?hg (N:=6) ?hd (cs:=#[.int .i64 0, .slice none 0 0, .int .i64 0]) (t:=38) ?hr ?_;(case hd => rfl);(case hg => rfl);(case hr => (go_simp;done));intro gb309 hg w12 hbox hb;have n0_:=Aside0.mk (Kd.R_below (by exact HO305.out) hb);have n1_:=Aside0.mk (blk_below (g:=gb300) (o := .cells #[.int .i64 0, .slice none 0 0, .int .i64 0] 38 (0,0)) (by exact BK300.out) hb);have n2_:=Aside0.mk (IsS58.below (by exact HI301.out) hb);have n3_:=Aside0.mk (below_step (by exact HB.out) hb);have n4_:=Aside0.mk (hbox);have n5_:=Aside0.mk ((by rw [hg];exact (below_size (by exact HB.out)) : w.heap.size ≤ gb309));have n6_:=Aside0.mk ((by rw [hg];exact (below_size (by exact HB.out)) : w.heap.size ≤ gb309));have n7_:=Aside0.mk ((by rw [hg];exact Nat.ne_of_lt (blk_lt (g:=gb300) (o := .cells #[.int .i64 0, .slice none 0 0, .int .i64 0] 38 (0,0)) (by exact BK300.out)) : gb300 ≠ gb309));have n8_:=Aside0.mk ((by rw [hg];exact Nat.ne_of_gt (blk_lt (g:=gb300) (o := .cells #[.int .i64 0, .slice none 0 0, .int .i64 0] 38 (0,0)) (by exact BK300.out)) : gb309 ≠ gb300));have n9_:=Aside0.mk ((by rw [hg];exact Nat.ne_of_lt (IsS58.lt (show IsS58 w _ gb301 l0 t307 t308 from by exact HI301.out)) : gb301 ≠ gb309));have n10_:=Aside0.mk ((by rw [hg];exact Nat.ne_of_gt (IsS58.lt (show IsS58 w _ gb301 l0 t307 t308 from by exact HI301.out)) : gb309 ≠ gb301));clear HO305;clear BK300;clear HI301;clear HB;have HO305:=n0_;have BK300:=n1_;have HI301:=n2_;have HB:=n3_;have BK309:=n4_;have GW309:=n5_;have GE309:=n6_;have NB300_309:=n7_;have NB309_300:=n8_;have NB301_309:=n9_;have NB309_301:=n10_;clear n0_ n1_ n2_ n3_ n4_ n5_ n6_ n7_ n8_ n9_ n10_;clear hb hbox hg;have hnb13:=NB309_300.out;have hnc13:=NB300_309.out;have hnb14:=NB309_301.out;have hnc14:=NB301_309.out;have hcz15_0 : w12.cell? ⟨gb309,0,none⟩ = some (.int .i64 0):=(blk_cell BK309.out 0).trans rfl;have hcz15_1 : w12.cell? ⟨gb309,1,none⟩ = some (.slice none 0 0):=(blk_cell BK309.out 1).trans rfl;have hcz15_2 : w12.cell? ⟨gb309,2,none⟩ = some (.int .i64 0):=(blk_cell BK309.out 2).trans rfl;have hfz15_0:=blk_frozen BK309.out 0;have hfz15_1:=blk_frozen BK309.out 1;have hfz15_2:=blk_frozen BK309.out 2;obtain ⟨Ao16,co16,eo16⟩ := Kd.R_slice HO305.out;subst eo16))
   have n0_ : Aside0 (Kd.R k51 51 (((w12.setCell ⟨gb309,0,none⟩ (.int .i64 t302)).setCell ⟨gb309,1,none⟩ (.slice Ao16 t303.length co16)).setCell ⟨gb309,2,none⟩ (.int .i64 t306)) w.heap.size (fun _ => True) (.slice Ao16 t303.length co16) t303):=⟨by exact Kd.R_mono (Kd.R_far (p:=⟨gb309,2,none⟩) (Kd.R_far (p:=⟨gb309,1,none⟩) (Kd.R_far (p:=⟨gb309,0,none⟩) (Kd.R_types HO305.out BK309.out (by decide)) (fun _ hk => hk.2) (.int .i64 t302)) (fun _ hk => hk.2) (.slice Ao16 t303.length co16)) (fun _ hk => hk.2) (.int .i64 t306)) (fun _ hk => trivial)⟩
   have n1_ : Aside0 ((((w12.setCell ⟨gb309,0,none⟩ (.int .i64 t302)).setCell ⟨gb309,1,none⟩ (.slice Ao16 t303.length co16)).setCell ⟨gb309,2,none⟩ (.int .i64 t306)).heap[gb300]? = some (.cells #[.int .i64 0, .slice none 0 0, .int .i64 0] 38 (0,0))):=⟨by refine blk_far ?_ NB300_309.out _;refine blk_far ?_ NB300_309.out _;refine blk_far ?_ NB300_309.out _;exact BK300.out⟩
   have n2_ : Aside0 ((((w12.setCell ⟨gb309,0,none⟩ (.int .i64 t302)).setCell ⟨gb309,1,none⟩ (.slice Ao16 t303.length co16)).setCell ⟨gb309,2,none⟩ (.int .i64 t306)).heap[gb309]? = some (.cells #[.int .i64 t302, .slice Ao16 t303.length co16, .int .i64 t306] 38 (0,0))):=⟨by refine blk_put (cs:=#[.int .i64 t302, .slice Ao16 t303.length co16, .int .i64 0]) ?_ 2 _ rfl;refine blk_put (cs:=#[.int .i64 t302, .slice none 0 0, .int .i64 0]) ?_ 1 _ rfl;refine blk_put (cs:=#[.int .i64 0, .slice none 0 0, .int .i64 0]) ?_ 0 _ rfl;exact BK309.out⟩
   have n3_ : Aside0 (IsS58 w (((w12.setCell ⟨gb309,0,none⟩ (.int .i64 t302)).setCell ⟨gb309,1,none⟩ (.slice Ao16 t303.length co16)).setCell ⟨gb309,2,none⟩ (.int .i64 t306)) gb301 l0 t307 t308):=⟨by repeat ((with_reducible first | exact HI301.out | refine IsS58.far ?_ NB301_309.out _))⟩
   have n4_ : Aside0 (Below w.heap.size w (((w12.setCell ⟨gb309,0,none⟩ (.int .i64 t302)).setCell ⟨gb309,1,none⟩ (.slice Ao16 t303.length co16)).setCell ⟨gb309,2,none⟩ (.int .i64 t306))):=⟨by repeat ((with_reducible first | exact HB.out | refine below_set ?_ GE309.out))⟩
   (try clear HO305)
   (try clear BK300)
   (try clear BK309)
   (try clear HI301)
   (try clear HB)
   generalize (((w12.setCell ⟨gb309,0,none⟩ (.int .i64 t302)).setCell ⟨gb309,1,none⟩ (.slice Ao16 t303.length co16)).setCell ⟨gb309,2,none⟩ (.int .i64 t306)) = w17 at n0_ n1_ n2_ n3_ n4_ ⊢
   have HO305:=n0_
   have BK300:=n1_
   have BK309:=n2_
   have HI301:=n3_
   have HB:=n4_
   clear n0_ n1_ n2_ n3_ n4_
   have n0_:=Aside0.mk (Kd.R_drew HO305.out)
   have n1_:=Aside0.mk (blk_drew BK300.out)
   have n2_:=Aside0.mk (blk_drew BK309.out)
   have n3_:=Aside0.mk (IsS58.drew HI301.out)
   have n4_:=Aside0.mk (below_drew1 HB.out)
   clear HO305
   clear BK300
   clear BK309
   clear HI301
   clear HB
   have HO305:=n0_
   have BK300:=n1_
   have BK309:=n2_
   have HI301:=n3_
   have HB:=n4_
   clear n0_ n1_ n2_ n3_ n4_
   refine start_ (n:=14) (S:=fun w' => w'.cell? ⟨gb309,0,none⟩ = some (.int .i64 t302) ∧ w'.cell? ⟨gb309,1,none⟩ = some (.slice Ao16 t303.length co16) ∧ w'.cell? ⟨gb309,2,none⟩ = some (.int .i64 t306)) (ds := []) #[false,false,false,false,false,false,false,false,false,false,false,false,false,false] (by kernel_rfl) rfl rfl ⟨(blk_cell BK309.out 0).trans rfl,(blk_cell BK309.out 1).trans rfl,(blk_cell BK309.out 2).trans rfl⟩ (fun hHeld => ?_);refine with_tabW spec_DrawLongestStay.tab3 spec_DrawLongestStay.bits3 (fun HT_ HW_ => ?_)
   generalize w17.drew = w18 at HO305 BK300 BK309 HI301 HB hHeld ⊢
   refine pure_ (i:=1) (N:=some 13) (v:=?_) (a':=?_) #[false,true,false,false,false,false,false,false,false,false,false,false,false,false] rfl rfl (any_of HT_.out (by kernel_rfl)) (fun _ _ _ h => h) (Or.inl ⟨by rfl, ?_⟩) ?_ ?_
   rotate_left
   ·intro w'
    go_simp
    with_reducible rfl
   rotate_left
   ·simp only [Act.put,sA_,s0_,s1_,i64_w,i32_w]
    rfl
   refine pure_ (i:=3) (N:=some 15) (v:=?_) (a':=?_) #[false,true,false,true,false,false,false,false,false,false,false,false,false,false] rfl rfl (any_of HT_.out (by kernel_rfl)) (fun _ _ _ h => h) (Or.inl ⟨by rfl, ?_⟩) ?_ ?_
   rotate_left
   ·intro w'
    go_simp
    with_reducible rfl
   rotate_left
   ·simp only [Act.put,sA_,s0_,s1_,i64_w,i32_w]
    rfl
   refine pure_ (i:=5) (N:=some 17) (v:=?_) (a':=?_) #[false,true,false,true,false,true,false,false,false,false,false,false,false,false] rfl rfl (any_of HT_.out (by kernel_rfl)) (fun _ _ _ h => h) (Or.inl ⟨by rfl, ?_⟩) ?_ ?_
   rotate_left
   ·intro w'
    go_simp
    with_reducible rfl
   rotate_left
   ·simp only [Act.put,sA_,s0_,s1_,i64_w,i32_w]
    rfl
   refine take_ (i:=0) (N:=some 12) (v:=?_) (a':=?_) #[true,true,false,true,false,true,false,false,false,false,false,false,false,false] rfl rfl (take_ofW HT_.out HW_.out (by kernel_rfl)) (fun _ _ _ h => h) (Or.inl ⟨by rfl, ?_⟩) hHeld ?_ ?_
   rotate_left
   ·rintro w' ⟨s0,s1,s2⟩
    go_simp
    with_reducible rfl
   rotate_left
   ·simp only [Act.put,sA_,s0_,s1_,i64_w,i32_w]
    rfl
   refine join_ (σ:=Value) 5 #[true,true,true,true,true,true,true,true,true,false,false,false,false,false] (fun s_ => [(14, .int .i64 t310),(16,s_),(18, .int .i64 t316),(19, .int .i64 (wrap64 (Int.tdiv t316 11))),(20, .int .i64 ji5)]) (fun s_ w' => (w'.cell? ⟨gb309,0,none⟩ = some (.int .i64 t302) ∧ w'.cell? ⟨gb309,1,none⟩ = some (.slice Ao16 t303.length co16) ∧ w'.cell? ⟨gb309,2,none⟩ = some (.int .i64 t306)) ∧ (Kd.R k51 51 w' w.heap.size (fun _ => True) (.slice Ao16 t303.length co16) t303) ∧ (Kd.R (Kd.int .i64) 3 w' w.heap.size (fun _ => True) s_ y313) ∧ (w'.heap[gb300]? = some (.cells #[.int .i64 0, .slice none 0 0, .int .i64 0] 38 (0,0))) ∧ (w'.heap[gb309]? = some (.cells #[.int .i64 t302, .slice Ao16 t303.length co16, .int .i64 t306] 38 (0,0))) ∧ (IsS58 w w' gb301 l0 t317 t318) ∧ (Below w.heap.size w w')) ?_ ?_
   rotate_left
   ·intro hCont
    refine two_ (i:=2) (j:=4) (Ni:=some 14) (Nj:=some 16) #[true,true,true,true,false,true,false,false,false,false,false,false,false,false] #[true,true,false,true,true,true,false,false,false,false,false,false,false,false] rfl rfl rfl rfl (two_of HT_.out (by kernel_rfl)) (by decide) (by decide) (fun K hK => ?_) (fun K hK => ?_)
    ·skip
     refine goes_ Try.func44 (by kernel_rfl) rfl #[.pointer (some ⟨gb301,0,none⟩)] (by rfl) rfl rfl (by (try simp only [List.map_toArray,List.map_cons,List.map_nil]);rfl) ?_
     with_reducible refine (spec_l1Cur_size22.calls gb301 l0 t307 t308 t310 t311 t312 w _ ?side1 ?side2 A3.out).mono ?_
     (case side1 => exact HI301.out)
     (case side2 => exact HB.out)
     rintro e w19 ⟨rfl,hi,hb,hk⟩
     refine ⟨_,rfl, ?_⟩
     have n0_:=Aside0.mk (KeepBut.blk hk (g':=gb300) (o := .cells #[.int .i64 0, .slice none 0 0, .int .i64 0] 38 (0,0)) (by exact BK300.out) NB300_301.out (by simp))
     have n1_:=Aside0.mk (Kd.R_mono (Kd.R_keep (IsS58.apart (show IsS58 w _ gb301 l0 t307 t308 from by exact HI301.out) (by exact HO305.out) (by decide)) hk (fun _ h => h.2)) (fun _ h => h.1))
     have n2_:=Aside0.mk (KeepBut.blk hk (g':=gb309) (o := .cells #[.int .i64 t302, .slice Ao16 t303.length co16, .int .i64 t306] 38 (0,0)) (by exact BK309.out) NB309_301.out (by simp))
     have n3_:=Aside0.mk (hb)
     have n4_:=Aside0.mk (hi)
     clear BK300
     clear HO305
     clear BK309
     clear HB
     clear HI301
     have BK300:=n0_
     have HO305:=n1_
     have BK309:=n2_
     have HB:=n3_
     have HI301:=n4_
     clear n0_ n1_ n2_ n3_ n4_
     (try clear hb)
     (skip)
     (try clear hk)
     (try clear hi)
     refine hK.out _ _ ⟨(blk_cell BK309.out 0).trans rfl,(blk_cell BK309.out 1).trans rfl,(blk_cell BK309.out 2).trans rfl⟩ (fun hHeld => ?_)
     clear hK K
     refine norm_ (a':=?_) ?_ ?_
     rotate_left
     ·show Act.put _ (some 14) _ = _
      simp only [Act.put,sA_,s0_,s1_,i64_w,i32_w]
      rfl
     refine two_ (i:=4) (j:=6) (Ni:=some 16) (Nj:=some 18) #[true,true,true,true,true,true,false,false,false,false,false,false,false,false] #[true,true,true,true,false,true,true,false,false,false,false,false,false,false] rfl rfl rfl rfl (two_of HT_.out (by kernel_rfl)) (by decide) (by decide) (fun K hK => ?_) (fun K hK => ?_)
     ·skip
      refine Kd.R_lit_step (Kd.int .i64) _ 3 ?hg (N:=16) ?hd (xs:=([0,1,99,1000,30000,10000000,(-1),10000001] : List Int)) (inner := [.int .i64 0, .int .i64 1, .int .i64 99, .int .i64 1000, .int .i64 30000, .int .i64 10000000, .int .i64 (-1), .int .i64 10000001]) (ok:=fun _ => True) (okp:=fun _ => True) ?hr ?hp (fun _ hk => hk) trivial (Below.refl _ _) (Nat.le_refl _) (by simp) ?_;(case hd => rfl);(case hg => rfl);(case hr => (go_simp;done));(case hp => exact (Reps.one (show Kd.M (Kd.int .i64) _ _ _ 0 [.int .i64 0] from rfl) (Reps.one (show Kd.M (Kd.int .i64) _ _ _ 1 [.int .i64 1] from rfl) (Reps.one (show Kd.M (Kd.int .i64) _ _ _ 99 [.int .i64 99] from rfl) (Reps.one (show Kd.M (Kd.int .i64) _ _ _ 1000 [.int .i64 1000] from rfl) (Reps.one (show Kd.M (Kd.int .i64) _ _ _ 30000 [.int .i64 30000] from rfl) (Reps.one (show Kd.M (Kd.int .i64) _ _ _ 10000000 [.int .i64 10000000] from rfl) (Reps.one (show Kd.M (Kd.int .i64) _ _ _ (-1) [.int .i64 (-1)] from rfl) (Reps.one (show Kd.M (Kd.int .i64) _ _ _ 10000001 [.int .i64 10000001] from rfl) (Reps.none _ _))))))))))
      intro v314 w20 ho21 hb hg_ hnew_
      clear hg_ hnew_
      (rw [← Ny313.out] at ho21)
      have n0_:=Aside0.mk (Kd.R_below (by exact HO305.out) hb)
      have n1_:=Aside0.mk (Kd.R_lower ho21 (below_size (by exact HB.out)))
      have n2_:=Aside0.mk (blk_below (g:=gb300) (o := .cells #[.int .i64 0, .slice none 0 0, .int .i64 0] 38 (0,0)) (by exact BK300.out) hb)
      have n3_:=Aside0.mk (IsS58.below (by exact HI301.out) hb)
      have n4_:=Aside0.mk (blk_below (g:=gb309) (o := .cells #[.int .i64 t302, .slice Ao16 t303.length co16, .int .i64 t306] 38 (0,0)) (by exact BK309.out) hb)
      have n5_:=Aside0.mk (below_step (by exact HB.out) hb)
      clear HO305
      clear BK300
      clear HI301
      clear BK309
      clear HB
      have HO305:=n0_
      have HO315:=n1_
      have BK300:=n2_
      have HI301:=n3_
      have BK309:=n4_
      have HB:=n5_
      clear n0_ n1_ n2_ n3_ n4_ n5_
      clear hb ho21
      refine hK.out _ _ ⟨(blk_cell BK309.out 0).trans rfl,(blk_cell BK309.out 1).trans rfl,(blk_cell BK309.out 2).trans rfl⟩ (fun hHeld => ?_)
      clear hK K
      refine norm_ (a':=?_) ?_ ?_
      rotate_left
      ·show Act.put _ (some 16) _ = _
       simp only [Act.put,sA_,s0_,s1_,i64_w,i32_w]
       rfl
      refine one_ (i:=6) (N:=some 18) #[true,true,true,true,true,true,true,false,false,false,false,false,false,false] rfl rfl (one_of HT_.out (by kernel_rfl)) (by decide) (fun K hK => ?_)
      refine goes_ Try.func33 (by kernel_rfl) rfl #[.pointer (some ⟨gb301,0,none⟩), .int .i64 24] (by rfl) rfl rfl (by (try simp only [List.map_toArray,List.map_cons,List.map_nil]);rfl) ?_
      with_reducible refine (spec_l1Cur_pick.calls gb301 l0 t311 t312 24 t316 t317 t318 w _ ?side1 ?side2 A4.out).mono ?_
      (case side1 => exact HI301.out)
      (case side2 => exact HB.out)
      rintro e w22 ⟨rfl,hi,hb,hk⟩
      refine ⟨_,rfl, ?_⟩
      have n0_:=Aside0.mk (KeepBut.blk hk (g':=gb300) (o := .cells #[.int .i64 0, .slice none 0 0, .int .i64 0] 38 (0,0)) (by exact BK300.out) NB300_301.out (by simp))
      have n1_:=Aside0.mk (Kd.R_mono (Kd.R_keep (IsS58.apart (show IsS58 w _ gb301 l0 t311 t312 from by exact HI301.out) (by exact HO305.out) (by decide)) hk (fun _ h => h.2)) (fun _ h => h.1))
      have n2_:=Aside0.mk (KeepBut.blk hk (g':=gb309) (o := .cells #[.int .i64 t302, .slice Ao16 t303.length co16, .int .i64 t306] 38 (0,0)) (by exact BK309.out) NB309_301.out (by simp))
      have n3_:=Aside0.mk (Kd.R_mono (Kd.R_keep (IsS58.apart (show IsS58 w _ gb301 l0 t311 t312 from by exact HI301.out) (by exact HO315.out) (by decide)) hk (fun _ h => h.2)) (fun _ h => h.1))
      have n4_:=Aside0.mk (hb)
      have n5_:=Aside0.mk (hi)
      clear BK300
      clear HO305
      clear BK309
      clear HO315
      clear HB
      clear HI301
      have BK300:=n0_
      have HO305:=n1_
      have BK309:=n2_
      have HO315:=n3_
      have HB:=n4_
      have HI301:=n5_
      clear n0_ n1_ n2_ n3_ n4_ n5_
      (try clear hb)
      (skip)
      (try clear hk)
      (try clear hi)
      refine hK.out _ _ ⟨(blk_cell BK309.out 0).trans rfl,(blk_cell BK309.out 1).trans rfl,(blk_cell BK309.out 2).trans rfl⟩ (fun hHeld => ?_)
      clear hK K
      refine norm_ (a':=?_) ?_ ?_
      rotate_left
      ·show Act.put _ (some 18) _ = _
       simp only [Act.put,sA_,s0_,s1_,i64_w,i32_w]
       rfl
      refine pure_ (i:=7) (N:=some 19) (v:=?_) (a':=?_) #[true,true,true,true,true,true,true,true,false,false,false,false,false,false] rfl rfl (any_of HT_.out (by kernel_rfl)) (fun _ _ _ h => h) (Or.inl ⟨by rfl, ?_⟩) ?_ ?_
      rotate_left
      ·intro w'
       go_simp
       with_reducible rfl
      rotate_left
      ·simp only [Act.put,sA_,s0_,s1_,i64_w,i32_w]
       rfl
      refine pure_ (i:=8) (N:=some 20) (v:=?_) (a':=?_) #[true,true,true,true,true,true,true,true,true,false,false,false,false,false] rfl rfl (any_of HT_.out (by kernel_rfl)) (fun _ _ _ h => h) (Or.inl ⟨by rfl, ?_⟩) ?_ ?_
      rotate_left
      ·intro w'
       go_simp
       with_reducible rfl
      rotate_left
      ·simp only [Act.put,sA_,s0_,s1_,i64_w,i32_w]
       rfl
      exact norm_ (by simp only [putAll,Act.put,sA_,s0_,s1_]) (hCont (v314) _ ⟨hHeld,(by exact HO305.out),(by exact HO315.out),(by exact BK300.out),(by exact BK309.out),(by exact HI301.out),(by exact HB.out)⟩)
     ·skip
      refine goes_ Try.func33 (by kernel_rfl) rfl #[.pointer (some ⟨gb301,0,none⟩), .int .i64 24] (by rfl) rfl rfl (by (try simp only [List.map_toArray,List.map_cons,List.map_nil]);rfl) ?_
      with_reducible refine (spec_l1Cur_pick.calls gb301 l0 t311 t312 24 t316 t317 t318 w _ ?side1 ?side2 A4.out).mono ?_
      (case side1 => exact HI301.out)
      (case side2 => exact HB.out)
      rintro e w20 ⟨rfl,hi,hb,hk⟩
      refine ⟨_,rfl, ?_⟩
      have n0_:=Aside0.mk (KeepBut.blk hk (g':=gb300) (o := .cells #[.int .i64 0, .slice none 0 0, .int .i64 0] 38 (0,0)) (by exact BK300.out) NB300_301.out (by simp))
      have n1_:=Aside0.mk (Kd.R_mono (Kd.R_keep (IsS58.apart (show IsS58 w _ gb301 l0 t311 t312 from by exact HI301.out) (by exact HO305.out) (by decide)) hk (fun _ h => h.2)) (fun _ h => h.1))
      have n2_:=Aside0.mk (KeepBut.blk hk (g':=gb309) (o := .cells #[.int .i64 t302, .slice Ao16 t303.length co16, .int .i64 t306] 38 (0,0)) (by exact BK309.out) NB309_301.out (by simp))
      have n3_:=Aside0.mk (hb)
      have n4_:=Aside0.mk (hi)
      clear BK300
      clear HO305
      clear BK309
      clear HB
      clear HI301
      have BK300:=n0_
      have HO305:=n1_
      have BK309:=n2_
      have HB:=n3_
      have HI301:=n4_
      clear n0_ n1_ n2_ n3_ n4_
      (try clear hb)
      (skip)
      (try clear hk)
      (try clear hi)
      refine hK.out _ _ ⟨(blk_cell BK309.out 0).trans rfl,(blk_cell BK309.out 1).trans rfl,(blk_cell BK309.out 2).trans rfl⟩ (fun hHeld => ?_)
      clear hK K
      refine norm_ (a':=?_) ?_ ?_
      rotate_left
      ·show Act.put _ (some 18) _ = _
       simp only [Act.put,sA_,s0_,s1_,i64_w,i32_w]
       rfl
      refine pure_ (i:=7) (N:=some 19) (v:=?_) (a':=?_) #[true,true,true,true,false,true,true,true,false,false,false,false,false,false] rfl rfl (any_of HT_.out (by kernel_rfl)) (fun _ _ _ h => h) (Or.inl ⟨by rfl, ?_⟩) ?_ ?_
      rotate_left
      ·intro w'
       go_simp
       with_reducible rfl
      rotate_left
      ·simp only [Act.put,sA_,s0_,s1_,i64_w,i32_w]
       rfl
      refine pure_ (i:=8) (N:=some 20) (v:=?_) (a':=?_) #[true,true,true,true,false,true,true,true,true,false,false,false,false,false] rfl rfl (any_of HT_.out (by kernel_rfl)) (fun _ _ _ h => h) (Or.inl ⟨by rfl, ?_⟩) ?_ ?_
      rotate_left
      ·intro w'
       go_simp
       with_reducible rfl
      rotate_left
      ·simp only [Act.put,sA_,s0_,s1_,i64_w,i32_w]
       rfl
      refine one_ (i:=4) (N:=some 16) #[true,true,true,true,true,true,true,true,true,false,false,false,false,false] rfl rfl (one_of HT_.out (by kernel_rfl)) (by decide) (fun K hK => ?_)
      refine Kd.R_lit_step (Kd.int .i64) _ 3 ?hg (N:=16) ?hd (xs:=([0,1,99,1000,30000,10000000,(-1),10000001] : List Int)) (inner := [.int .i64 0, .int .i64 1, .int .i64 99, .int .i64 1000, .int .i64 30000, .int .i64 10000000, .int .i64 (-1), .int .i64 10000001]) (ok:=fun _ => True) (okp:=fun _ => True) ?hr ?hp (fun _ hk => hk) trivial (Below.refl _ _) (Nat.le_refl _) (by simp) ?_;(case hd => rfl);(case hg => rfl);(case hr => (go_simp;done));(case hp => exact (Reps.one (show Kd.M (Kd.int .i64) _ _ _ 0 [.int .i64 0] from rfl) (Reps.one (show Kd.M (Kd.int .i64) _ _ _ 1 [.int .i64 1] from rfl) (Reps.one (show Kd.M (Kd.int .i64) _ _ _ 99 [.int .i64 99] from rfl) (Reps.one (show Kd.M (Kd.int .i64) _ _ _ 1000 [.int .i64 1000] from rfl) (Reps.one (show Kd.M (Kd.int .i64) _ _ _ 30000 [.int .i64 30000] from rfl) (Reps.one (show Kd.M (Kd.int .i64) _ _ _ 10000000 [.int .i64 10000000] from rfl) (Reps.one (show Kd.M (Kd.int .i64) _ _ _ (-1) [.int .i64 (-1)] from rfl) (Reps.one (show Kd.M (Kd.int .i64) _ _ _ 10000001 [.int .i64 10000001] from rfl) (Reps.none _ _))))))))))
      intro v314 w21 ho22 hb hg_ hnew_
      clear hg_ hnew_
      (rw [← Ny313.out] at ho22)
      have n0_:=Aside0.mk (Kd.R_below (by exact HO305.out) hb)
      have n1_:=Aside0.mk (Kd.R_lower ho22 (below_size (by exact HB.out)))
      have n2_:=Aside0.mk (blk_below (g:=gb300) (o := .cells #[.int .i64 0, .slice none 0 0, .int .i64 0] 38 (0,0)) (by exact BK300.out) hb)
      have n3_:=Aside0.mk (IsS58.below (by exact HI301.out) hb)
      have n4_:=Aside0.mk (blk_below (g:=gb309) (o := .cells #[.int .i64 t302, .slice Ao16 t303.length co16, .int .i64 t306] 38 (0,0)) (by exact BK309.out) hb)
      have n5_:=Aside0.mk (below_step (by exact HB.out) hb)
      clear HO305
      clear BK300
      clear HI301
      clear BK309
      clear HB
      have HO305:=n0_
      have HO315:=n1_
      have BK300:=n2_
      have HI301:=n3_
      have BK309:=n4_
      have HB:=n5_
      clear n0_ n1_ n2_ n3_ n4_ n5_
      clear hb ho22
      refine hK.out _ _ ⟨(blk_cell BK309.out 0).trans rfl,(blk_cell BK309.out 1).trans rfl,(blk_cell BK309.out 2).trans rfl⟩ (fun hHeld => ?_)
      clear hK K
      refine norm_ (a':=?_) ?_ ?_
      rotate_left
      ·show Act.put _ (some 16) _ = _
       simp only [Act.put,sA_,s0_,s1_,i64_w,i32_w]
       rfl
      exact norm_ (by simp only [putAll,Act.put,sA_,s0_,s1_]) (hCont (v314) _ ⟨hHeld,(by exact HO305.out),(by exact HO315.out),(by exact BK300.out),(by exact BK309.out),(by exact HI301.out),(by exact HB.out)⟩)
    ·skip
     refine Kd.R_lit_step (Kd.int .i64) _ 3 ?hg (N:=16) ?hd (xs:=([0,1,99,1000,30000,10000000,(-1),10000001] : List Int)) (inner := [.int .i64 0, .int .i64 1, .int .i64 99, .int .i64 1000, .int .i64 30000, .int .i64 10000000, .int .i64 (-1), .int .i64 10000001]) (ok:=fun _ => True) (okp:=fun _ => True) ?hr ?hp (fun _ hk => hk) trivial (Below.refl _ _) (Nat.le_refl _) (by simp) ?_;(case hd => rfl);(case hg => rfl);(case hr => (go_simp;done));(case hp => exact (Reps.one (show Kd.M (Kd.int .i64) _ _ _ 0 [.int .i64 0] from rfl) (Reps.one (show Kd.M (Kd.int .i64) _ _ _ 1 [.int .i64 1] from rfl) (Reps.one (show Kd.M (Kd.int .i64) _ _ _ 99 [.int .i64 99] from rfl) (Reps.one (show Kd.M (Kd.int .i64) _ _ _ 1000 [.int .i64 1000] from rfl) (Reps.one (show Kd.M (Kd.int .i64) _ _ _ 30000 [.int .i64 30000] from rfl) (Reps.one (show Kd.M (Kd.int .i64) _ _ _ 10000000 [.int .i64 10000000] from rfl) (Reps.one (show Kd.M (Kd.int .i64) _ _ _ (-1) [.int .i64 (-1)] from rfl) (Reps.one (show Kd.M (Kd.int .i64) _ _ _ 10000001 [.int .i64 10000001] from rfl) (Reps.none _ _))))))))))
     intro v314 w19 ho20 hb hg_ hnew_
     clear hg_ hnew_
     (rw [← Ny313.out] at ho20)
     have n0_:=Aside0.mk (Kd.R_below (by exact HO305.out) hb)
     have n1_:=Aside0.mk (Kd.R_lower ho20 (below_size (by exact HB.out)))
     have n2_:=Aside0.mk (blk_below (g:=gb300) (o := .cells #[.int .i64 0, .slice none 0 0, .int .i64 0] 38 (0,0)) (by exact BK300.out) hb)
     have n3_:=Aside0.mk (IsS58.below (by exact HI301.out) hb)
     have n4_:=Aside0.mk (blk_below (g:=gb309) (o := .cells #[.int .i64 t302, .slice Ao16 t303.length co16, .int .i64 t306] 38 (0,0)) (by exact BK309.out) hb)
     have n5_:=Aside0.mk (below_step (by exact HB.out) hb)
     clear HO305
     clear BK300
     clear HI301
     clear BK309
     clear HB
     have HO305:=n0_
     have HO315:=n1_
     have BK300:=n2_
     have HI301:=n3_
     have BK309:=n4_
     have HB:=n5_
     clear n0_ n1_ n2_ n3_ n4_ n5_
     clear hb ho20
     refine hK.out _ _ ⟨(blk_cell BK309.out 0).trans rfl,(blk_cell BK309.out 1).trans rfl,(blk_cell BK309.out 2).trans rfl⟩ (fun hHeld => ?_)
     clear hK K
     refine norm_ (a':=?_) ?_ ?_
     rotate_left
     ·show Act.put _ (some 16) _ = _
      simp only [Act.put,sA_,s0_,s1_,i64_w,i32_w]
      rfl
     refine one_ (i:=2) (N:=some 14) #[true,true,true,true,true,true,false,false,false,false,false,false,false,false] rfl rfl (one_of HT_.out (by kernel_rfl)) (by decide) (fun K hK => ?_)
     refine goes_ Try.func44 (by kernel_rfl) rfl #[.pointer (some ⟨gb301,0,none⟩)] (by rfl) rfl rfl (by (try simp only [List.map_toArray,List.map_cons,List.map_nil]);rfl) ?_
     with_reducible refine (spec_l1Cur_size22.calls gb301 l0 t307 t308 t310 t311 t312 w _ ?side1 ?side2 A3.out).mono ?_
     (case side1 => exact HI301.out)
     (case side2 => exact HB.out)
     rintro e w21 ⟨rfl,hi,hb,hk⟩
     refine ⟨_,rfl, ?_⟩
     have n0_:=Aside0.mk (KeepBut.blk hk (g':=gb300) (o := .cells #[.int .i64 0, .slice none 0 0, .int .i64 0] 38 (0,0)) (by exact BK300.out) NB300_301.out (by simp))
     have n1_:=Aside0.mk (Kd.R_mono (Kd.R_keep (IsS58.apart (show IsS58 w _ gb301 l0 t307 t308 from by exact HI301.out) (by exact HO305.out) (by decide)) hk (fun _ h => h.2)) (fun _ h => h.1))
     have n2_:=Aside0.mk (KeepBut.blk hk (g':=gb309) (o := .cells #[.int .i64 t302, .slice Ao16 t303.length co16, .int .i64 t306] 38 (0,0)) (by exact BK309.out) NB309_301.out (by simp))
     have n3_:=Aside0.mk (Kd.R_mono (Kd.R_keep (IsS58.apart (show IsS58 w _ gb301 l0 t307 t308 from by exact HI301.out) (by exact HO315.out) (by decide)) hk (fun _ h => h.2)) (fun _ h => h.1))
     have n4_:=Aside0.mk (hb)
     have n5_:=Aside0.mk (hi)
     clear BK300
     clear HO305
     clear BK309
     clear HO315
     clear HB
     clear HI301
     have BK300:=n0_
     have HO305:=n1_
     have BK309:=n2_
     have HO315:=n3_
     have HB:=n4_
     have HI301:=n5_
     clear n0_ n1_ n2_ n3_ n4_ n5_
     (try clear hb)
     (skip)
     (try clear hk)
     (try clear hi)
     refine hK.out _ _ ⟨(blk_cell BK309.out 0).trans rfl,(blk_cell BK309.out 1).trans rfl,(blk_cell BK309.out 2).trans rfl⟩ (fun hHeld => ?_)
     clear hK K
     refine norm_ (a':=?_) ?_ ?_
     rotate_left
     ·show Act.put _ (some 14) _ = _
      simp only [Act.put,sA_,s0_,s1_,i64_w,i32_w]
      rfl
     refine one_ (i:=6) (N:=some 18) #[true,true,true,true,true,true,true,false,false,false,false,false,false,false] rfl rfl (one_of HT_.out (by kernel_rfl)) (by decide) (fun K hK => ?_)
     refine goes_ Try.func33 (by kernel_rfl) rfl #[.pointer (some ⟨gb301,0,none⟩), .int .i64 24] (by rfl) rfl rfl (by (try simp only [List.map_toArray,List.map_cons,List.map_nil]);rfl) ?_
     with_reducible refine (spec_l1Cur_pick.calls gb301 l0 t311 t312 24 t316 t317 t318 w _ ?side1 ?side2 A4.out).mono ?_
     (case side1 => exact HI301.out)
     (case side2 => exact HB.out)
     rintro e w22 ⟨rfl,hi,hb,hk⟩
     refine ⟨_,rfl, ?_⟩
     have n0_:=Aside0.mk (KeepBut.blk hk (g':=gb300) (o := .cells #[.int .i64 0, .slice none 0 0, .int .i64 0] 38 (0,0)) (by exact BK300.out) NB300_301.out (by simp))
     have n1_:=Aside0.mk (Kd.R_mono (Kd.R_keep (IsS58.apart (show IsS58 w _ gb301 l0 t311 t312 from by exact HI301.out) (by exact HO305.out) (by decide)) hk (fun _ h => h.2)) (fun _ h => h.1))
     have n2_:=Aside0.mk (KeepBut.blk hk (g':=gb309) (o := .cells #[.int .i64 t302, .slice Ao16 t303.length co16, .int .i64 t306] 38 (0,0)) (by exact BK309.out) NB309_301.out (by simp))
     have n3_:=Aside0.mk (Kd.R_mono (Kd.R_keep (IsS58.apart (show IsS58 w _ gb301 l0 t311 t312 from by exact HI301.out) (by exact HO315.out) (by decide)) hk (fun _ h => h.2)) (fun _ h => h.1))
     have n4_:=Aside0.mk (hb)
     have n5_:=Aside0.mk (hi)
     clear BK300
     clear HO305
     clear BK309
     clear HO315
     clear HB
     clear HI301
     have BK300:=n0_
     have HO305:=n1_
     have BK309:=n2_
     have HO315:=n3_
     have HB:=n4_
     have HI301:=n5_
     clear n0_ n1_ n2_ n3_ n4_ n5_
     (try clear hb)
     (skip)
     (try clear hk)
     (try clear hi)
     refine hK.out _ _ ⟨(blk_cell BK309.out 0).trans rfl,(blk_cell BK309.out 1).trans rfl,(blk_cell BK309.out 2).trans rfl⟩ (fun hHeld => ?_)
     clear hK K
     refine norm_ (a':=?_) ?_ ?_
     rotate_left
     ·show Act.put _ (some 18) _ = _
      simp only [Act.put,sA_,s0_,s1_,i64_w,i32_w]
      rfl
     refine pure_ (i:=7) (N:=some 19) (v:=?_) (a':=?_) #[true,true,true,true,true,true,true,true,false,false,false,false,false,false] rfl rfl (any_of HT_.out (by kernel_rfl)) (fun _ _ _ h => h) (Or.inl ⟨by rfl, ?_⟩) ?_ ?_
     rotate_left
     ·intro w'
      go_simp
      with_reducible rfl
     rotate_left
     ·simp only [Act.put,sA_,s0_,s1_,i64_w,i32_w]
      rfl
     refine pure_ (i:=8) (N:=some 20) (v:=?_) (a':=?_) #[true,true,true,true,true,true,true,true,true,false,false,false,false,false] rfl rfl (any_of HT_.out (by kernel_rfl)) (fun _ _ _ h => h) (Or.inl ⟨by rfl, ?_⟩) ?_ ?_
     rotate_left
     ·intro w'
      go_simp
      with_reducible rfl
     rotate_left
     ·simp only [Act.put,sA_,s0_,s1_,i64_w,i32_w]
      rfl
     exact norm_ (by simp only [putAll,Act.put,sA_,s0_,s1_]) (hCont (v314) _ ⟨hHeld,(by exact HO305.out),(by exact HO315.out),(by exact BK300.out),(by exact BK309.out),(by exact HI301.out),(by exact HB.out)⟩)
   rintro v314 w23 ⟨hS_,h0_,h1_,h2_,h3_,h4_,h5_⟩
   have n0_ : Aside0 (Kd.R k51 51 w23 w.heap.size (fun _ => True) (.slice Ao16 t303.length co16) t303):=⟨h0_⟩
   have n1_ : Aside0 (Kd.R (Kd.int .i64) 3 w23 w.heap.size (fun _ => True) v314 y313):=⟨h1_⟩
   have n2_ : Aside0 (w23.heap[gb300]? = some (.cells #[.int .i64 0, .slice none 0 0, .int .i64 0] 38 (0,0))):=⟨h2_⟩
   have n3_ : Aside0 (w23.heap[gb309]? = some (.cells #[.int .i64 t302, .slice Ao16 t303.length co16, .int .i64 t306] 38 (0,0))):=⟨h3_⟩
   have n4_ : Aside0 (IsS58 w w23 gb301 l0 t317 t318):=⟨h4_⟩
   have n5_ : Aside0 (Below w.heap.size w w23):=⟨h5_⟩
   clear HO305
   clear BK300
   clear BK309
   clear HI301
   clear HB
   clear h0_ h1_ h2_ h3_ h4_ h5_
   have HO305:=n0_
   have HO315:=n1_
   have BK300:=n2_
   have BK309:=n3_
   have HI301:=n4_
   have HB:=n5_
   clear n0_ n1_ n2_ n3_ n4_ n5_
   have hHeld : w23.cell? ⟨gb309,0,none⟩ = some (.int .i64 t302) ∧ w23.cell? ⟨gb309,1,none⟩ = some (.slice Ao16 t303.length co16) ∧ w23.cell? ⟨gb309,2,none⟩ = some (.int .i64 t306):=hS_
   obtain ⟨Ao25,co25,eo25⟩ := Kd.R_slice HO315.out
   (subst eo25)
   have q24 : ((ji5) : Int) ≤ ((y313.length : Int) : Int):=of_decide_eq_true (by (with_reducible assumption))
   obtain ⟨i024,hi024,_,hsz24,_⟩ := info_parts info3
   have hroom24 : y313.length ≤ co25:=(Kd.R_reads' HO315.out).2.1
   have hC24 : Kd.C (Kd.int .i64) _ Ao25 y313.length y313:=(Kd.R_reads' HO315.out).2.2
   have hcut24:=cut_to (P:=Try.prog) 43 3 .i64 Try.underlying43 hi024 Ao25 y313.length co25 (ji5) (of_decide_eq_true (by (with_reducible assumption))) q24 hroom24
   have hr24:=Kd.C_take (m:=((ji5) : Int).toNat) hC24 (by omega)
   have hy24 : y319.length = ((ji5) : Int).toNat:=(by rw [Ny319.out,List.length_take];omega)
   rw [← Ny319.out] at hr24
   rw [← hy24] at hcut24
   have HR322:=Aside0.mk hr24
   have HC322:=Aside0.mk (show y319.length ≤ co25 from by omega)
   clear hr24 hC24 hroom24 hi024 hsz24
   have KY24:=Aside0.mk hy24
   clear hy24
   have KL24:=Aside0.mk (show ((ji5) : Int).toNat ≤ y313.length from by omega)
   replace q24:=eq_true q24
   refine norm_ (a':=?_) ?_ ?_
   rotate_left
   ·simp only [putAll,Act.put,sA_,s0_,s1_]
    rfl
   refine pure_ (i:=9) (N:=some 21) (v:=?_) (a':=?_) #[true,true,true,true,true,true,true,true,true,true,false,false,false,false] rfl rfl (any_of HT_.out (by kernel_rfl)) (fun _ _ _ h => h) (Or.inl ⟨by rfl, ?_⟩) ?_ ?_
   rotate_left
   ·intro w'
    go_simp
    with_reducible rfl
   rotate_left
   ·simp only [Act.put,sA_,s0_,s1_,i64_w,i32_w]
    rfl
   refine one_ (i:=10) (N:=some 22) #[true,true,true,true,true,true,true,true,true,true,true,false,false,false] rfl rfl (one_of HT_.out (by kernel_rfl)) (by decide) (fun K hK => ?_)
   refine goes_ Try.func36 (by kernel_rfl) rfl #[.pointer (some ⟨gb301,0,none⟩), .slice Ao25 y319.length co25] (by rfl) rfl rfl (by (try simp only [List.map_toArray,List.map_cons,List.map_nil]);rfl) ?_
   with_reducible refine (spec_l1Cur_among.calls gb301 l0 t317 t318 _ _ y319 t323 t324 t325 w _ ?side1 ?side2 ?side3 ?side4 ?side5 A8.out).mono ?_
   (case side1 => exact HI301.out)
   (case side2 => exact HB.out)
   (case side3 => repeat (exact (by exact HR322.out)))
   (case side4 => exact HC322.out)
   (case side5 => intro ad_ he_ hn_;exact far_slice (IsS58.own_ne HI301.out HO315.out (by decide)) ad_ he_ (by have h1_:=KL24.out;have h2_:=KY24.out;omega))
   rintro e w26 ⟨rfl,hi,hb,hk⟩
   refine ⟨_,rfl, ?_⟩
   have n0_:=Aside0.mk (KeepBut.blk hk (g':=gb300) (o := .cells #[.int .i64 0, .slice none 0 0, .int .i64 0] 38 (0,0)) (by exact BK300.out) NB300_301.out (by simp))
   have n1_:=Aside0.mk (Kd.R_mono (Kd.R_keep (IsS58.apart (show IsS58 w _ gb301 l0 t317 t318 from by exact HI301.out) (by exact HO305.out) (by decide)) hk (fun _ h => h.2)) (fun _ h => h.1))
   have n2_:=Aside0.mk (KeepBut.blk hk (g':=gb309) (o := .cells #[.int .i64 t302, .slice Ao16 t303.length co16, .int .i64 t306] 38 (0,0)) (by exact BK309.out) NB309_301.out (by simp))
   have n3_:=Aside0.mk (Kd.R_mono (Kd.R_keep (IsS58.apart (show IsS58 w _ gb301 l0 t317 t318 from by exact HI301.out) (by exact HO315.out) (by decide)) hk (fun _ h => h.2)) (fun _ h => h.1))
   have n4_:=Aside0.mk (hb)
   have n5_:=Aside0.mk (hi)
   clear BK300
   clear HO305
   clear BK309
   clear HO315
   clear HB
   clear HI301
   have BK300:=n0_
   have HO305:=n1_
   have BK309:=n2_
   have HO315:=n3_
   have HB:=n4_
   have HI301:=n5_
   clear n0_ n1_ n2_ n3_ n4_ n5_
   (try clear hb)
   (skip)
   (try clear hk)
   (try clear hi)
   refine hK.out _ _ ⟨(blk_cell BK309.out 0).trans rfl,(blk_cell BK309.out 1).trans rfl,(blk_cell BK309.out 2).trans rfl⟩ (fun hHeld => ?_)
   clear hK K
   refine norm_ (a':=?_) ?_ ?_
   rotate_left
   ·show Act.put _ (some 22) _ = _
    simp only [Act.put,sA_,s0_,s1_,i64_w,i32_w]
    rfl
   refine one_ (i:=11) (N:=none) #[true,true,true,true,true,true,true,true,true,true,true,true,false,false] rfl rfl (one_of HT_.out (by kernel_rfl)) (by decide) (fun K hK => ?_)
   have hs27 : w26.cell? ⟨gb300,0,none⟩ = some (.int .i64 0):=(blk_cell BK300.out 0).trans rfl
   have hfs27:=blk_frozen BK300.out 0
   have hns27_1:=NB309_300.out
   have hms27_1:=NB300_309.out
   have hs28 : w26.cell? ⟨gb300,1,none⟩ = some (.slice none 0 0):=(blk_cell BK300.out 1).trans rfl
   have hfs28:=blk_frozen BK300.out 1
   have hns28_1:=NB309_300.out
   have hms28_1:=NB300_309.out
   have hs29 : w26.cell? ⟨gb300,2,none⟩ = some (.int .i64 0):=(blk_cell BK300.out 2).trans rfl
   have hfs29:=blk_frozen BK300.out 2
   have hns29_1:=NB309_300.out
   have hms29_1:=NB300_309.out
   refine skip_ (w1:=?_) (by rfl) rfl ?_ ?_
   rotate_left
   ·go_simp
    rfl
   refine hK.out _ _ ⟨((cell_far (p:=⟨gb300,_,none⟩) NB309_300.out _).trans (((cell_far (p:=⟨gb300,_,none⟩) NB309_300.out _).trans (((cell_far (p:=⟨gb300,_,none⟩) NB309_300.out _).trans (hHeld.1)))))),((cell_far (p:=⟨gb300,_,none⟩) NB309_300.out _).trans (((cell_far (p:=⟨gb300,_,none⟩) NB309_300.out _).trans (((cell_far (p:=⟨gb300,_,none⟩) NB309_300.out _).trans (hHeld.2.1)))))),((cell_far (p:=⟨gb300,_,none⟩) NB309_300.out _).trans (((cell_far (p:=⟨gb300,_,none⟩) NB309_300.out _).trans (((cell_far (p:=⟨gb300,_,none⟩) NB309_300.out _).trans (hHeld.2.2))))))⟩ (fun hHeld => ?_)
   clear hK K
   refine pure_ (i:=12) (N:=some 3) (v:=?_) (a':=?_) #[true,true,true,true,true,true,true,true,true,true,true,true,true,false] rfl rfl (any_of HT_.out (by kernel_rfl)) (fun _ _ _ h => h) (Or.inl ⟨by rfl, ?_⟩) ?_ ?_
   rotate_left
   ·intro w'
    go_simp
    with_reducible rfl
   rotate_left
   ·simp only [Act.put,sA_,s0_,s1_,i64_w,i32_w]
    rfl
   refine pure_ (i:=13) (N:=some 4) (v:=?_) (a':=?_) #[true,true,true,true,true,true,true,true,true,true,true,true,true,true] rfl rfl (any_of HT_.out (by kernel_rfl)) (fun _ _ _ h => h) (Or.inl ⟨by rfl, ?_⟩) ?_ ?_
   rotate_left
   ·intro w'
    go_simp
    with_reducible rfl
   rotate_left
   ·simp only [Act.put,sA_,s0_,s1_,i64_w,i32_w]
    rfl
   refine done_ (done_of HT_.out (by kernel_rfl)) ?_
   try go_wp2
   refine bodyPost_ret (results_ctt rfl _ _ gb300 38 #[.int .i64 t302, .slice Ao16 t303.length co16, .int .i64 t306] (0,0) _ rfl (by refine blk_put (cs:=#[.int .i64 t302, .slice Ao16 t303.length co16, .int .i64 0]) ?_ 2 _ rfl;refine blk_put (cs:=#[.int .i64 t302, .slice none 0 0, .int .i64 0]) ?_ 1 _ rfl;refine blk_put (cs:=#[.int .i64 0, .slice none 0 0, .int .i64 0]) ?_ 0 _ rfl;exact BK300.out) Try.underlying38 rfl (by kernel_rfl)) rfl ?_
   exact ⟨_,by rfl,by exact Kd.R_mono (Kd.R_far (p:=⟨gb300,2,none⟩) (Kd.R_far (p:=⟨gb300,1,none⟩) (Kd.R_far (p:=⟨gb300,0,none⟩) (Kd.R_types HO305.out BK300.out (by decide)) (fun _ hk => hk.2) (.int .i64 t302)) (fun _ hk => hk.2) (.slice Ao16 t303.length co16)) (fun _ hk => hk.2) (.int .i64 t306)) (fun _ hk => trivial),by repeat ((with_reducible first | exact HB.out | refine below_set ?_ GE300.out))⟩
  ·rw [if_neg c7] at H
   exact absurd H (by simp)
 ·rw [if_neg c6] at H
  exact absurd H (by simp)

/-! ### impl_LongestStay: function 21 -/
mutual
def impl_LongestStay.j0 : Nat → Int → Int → Bool → Int → List (S51) → Int → Option (Int × Bool)
 | 0,_,_,_,_,_,_ => none
 | k + 1,x1,x2,x17,x327000,x327001,x327002 => if x17 = true then (some (0,false)) else (impl_LongestStay.l0 k x1 x2 0 x327000 x327001 x327002)
def impl_LongestStay.l0 : Nat → Int → Int → Int → Int → List (S51) → Int → Option (Int × Bool)
 | 0,_,_,_,_,_,_ => none
 | k + 1,x1,x2,x8,x327000,x327001,x327002 => if x8 < 400 then ((impl_stayCharge.f k x327000 x327001 x327002 x1 (wrap64 (x8 + 1))).bind fun t329 => (if t329 ≤ x2 then (impl_LongestStay.l0 k x1 x2 (wrap64 (x8 + 1)) x327000 x327001 x327002) else (some (x8,true)))) else (some (x8,true))
end
def impl_LongestStay.f (k : Nat) (a0_0 : Int) (l0_1 : List (S51)) (a0_2 : Int) (a1 : Int) (a2 : Int) : Option (Int × Bool):=(impl_isStay.f k a0_0 l0_1 a0_2 a1 0).bind fun t327 => (if t327 = true then ((impl_within.f a2 0 10000000).bind fun t328 => (impl_LongestStay.j0 k a1 a2 (!t328) a0_0 l0_1 a0_2)) else (impl_LongestStay.j0 k a1 a2 true a0_0 l0_1 a0_2))
theorem impl_LongestStay.mono_l : ∀ k,(∀ y0 y1 y2 y3 y4 y5,LeO (impl_LongestStay.j0 k y0 y1 y2 y3 y4 y5) (impl_LongestStay.j0 (k + 1) y0 y1 y2 y3 y4 y5)) ∧ (∀ y0 y1 y2 y3 y4 y5,LeO (impl_LongestStay.l0 k y0 y1 y2 y3 y4 y5) (impl_LongestStay.l0 (k + 1) y0 y1 y2 y3 y4 y5))
 | 0 => ⟨fun _ _ _ _ _ _ r h => by simp [impl_LongestStay.j0] at h,fun _ _ _ _ _ _ r h => by simp [impl_LongestStay.l0] at h⟩
 | k + 1 => by
  obtain ⟨ih0,ih1⟩ := impl_LongestStay.mono_l k
  refine ⟨?_, ?_⟩
  ·intro y0 y1 y2 y3 y4 y5
   unfold impl_LongestStay.j0
   repeat' first
   | (with_reducible exact ih0 _ _ _ _ _ _)
   | (with_reducible exact ih1 _ _ _ _ _ _)
   | (with_reducible exact impl_isStay.mono _ _ _ _ _ _)
   | (with_reducible exact impl_stayCharge.mono _ _ _ _ _ _)
   | (with_reducible exact LeO.refl _)
   | (with_reducible exact LeO.none _)
   | (with_reducible refine LeO.ite ?_ ?_)
   | (with_reducible refine LeO.bind ?_ (fun _ => ?_))
   | exact ih0 _ _ _ _ _ _
   | exact ih1 _ _ _ _ _ _
   | exact impl_isStay.mono _ _ _ _ _ _
   | exact impl_stayCharge.mono _ _ _ _ _ _
   | exact LeO.none _
   | refine LeO.ite ?_ ?_
   | refine LeO.bind ?_ (fun _ => ?_)
  ·intro y0 y1 y2 y3 y4 y5
   unfold impl_LongestStay.l0
   repeat' first
   | (with_reducible exact ih0 _ _ _ _ _ _)
   | (with_reducible exact ih1 _ _ _ _ _ _)
   | (with_reducible exact impl_isStay.mono _ _ _ _ _ _)
   | (with_reducible exact impl_stayCharge.mono _ _ _ _ _ _)
   | (with_reducible exact LeO.refl _)
   | (with_reducible exact LeO.none _)
   | (with_reducible refine LeO.ite ?_ ?_)
   | (with_reducible refine LeO.bind ?_ (fun _ => ?_))
   | exact ih0 _ _ _ _ _ _
   | exact ih1 _ _ _ _ _ _
   | exact impl_isStay.mono _ _ _ _ _ _
   | exact impl_stayCharge.mono _ _ _ _ _ _
   | exact LeO.none _
   | refine LeO.ite ?_ ?_
   | refine LeO.bind ?_ (fun _ => ?_)
theorem impl_LongestStay.mono : ∀ a0 a1 a2 a3 a4 k,LeO (impl_LongestStay.f k a0 a1 a2 a3 a4) (impl_LongestStay.f (k + 1) a0 a1 a2 a3 a4):=by
 intro a0 a1 a2 a3 a4 k
 obtain ⟨ih0,ih1⟩ := impl_LongestStay.mono_l k
 unfold impl_LongestStay.f
 repeat' first
   | (with_reducible exact ih0 _ _ _ _ _ _)
   | (with_reducible exact ih1 _ _ _ _ _ _)
   | (with_reducible exact impl_isStay.mono _ _ _ _ _ _)
   | (with_reducible exact impl_stayCharge.mono _ _ _ _ _ _)
   | (with_reducible exact LeO.refl _)
   | (with_reducible exact LeO.none _)
   | (with_reducible refine LeO.ite ?_ ?_)
   | (with_reducible refine LeO.bind ?_ (fun _ => ?_))
   | exact ih0 _ _ _ _ _ _
   | exact ih1 _ _ _ _ _ _
   | exact impl_isStay.mono _ _ _ _ _ _
   | exact impl_stayCharge.mono _ _ _ _ _ _
   | exact LeO.none _
   | refine LeO.ite ?_ ?_
   | refine LeO.bind ?_ (fun _ => ?_)
set_option maxHeartbeats 8000000 in
set_option maxRecDepth 100000 in
theorem impl_LongestStay.calls (k : Nat) (a0_0 : Int) (A0_1 : Option Addr) (c0_1 : Nat) (l0_1 : List (S51)) (a0_2 : Int) (a1 : Int) (a2 : Int) (r1 : Int) (r2 : Bool) (w : World) (hr0_1 : Kd.C k51 w A0_1 l0_1.length l0_1) (hc0_1 : l0_1.length ≤ c0_1) (h : impl_LongestStay.f k a0_0 l0_1 a0_2 a1 a2 = some (r1,r2)) :
  Calls Try.prog 21 #[.agg #[.int .i64 a0_0, .slice A0_1 l0_1.length c0_1, .int .i64 a0_2], .int .i64 a1, .int .i64 a2] w fun e w' => e = .returned (.tuple #[.int .i64 r1, .bool r2]) ∧ Below w.heap.size w w':=by
 have hu38:=Try.underlying38
 have HR0_1:=Aside0.mk hr0_1
 have HC0_1:=Aside0.mk hc0_1
 clear hr0_1 hc0_1
 have HB:=Aside0.mk (Below.refl w.heap.size w)
 have H : ((impl_isStay.f k a0_0 l0_1 a0_2 a1 0).bind fun t327 => (if t327 = true then ((impl_within.f a2 0 10000000).bind fun t328 => (impl_LongestStay.j0 k a1 a2 (!t328) a0_0 l0_1 a0_2)) else (impl_LongestStay.j0 k a1 a2 true a0_0 l0_1 a0_2))) = some (r1,r2):=h
 clear h
 have HC4:=Aside0.mk H
 clear H
 go_enter Try.func21,Try.ntmps21
 go_upto_region 1 with (((with_reducible refine gate_dst (N:=3) rfl ?_);refine box_event ?hg (N:=3) ?hd (cs:=#[.int .i64 a0_0, .slice A0_1 l0_1.length c0_1, .int .i64 a0_2]) (t:=38) ?hr ?_;(case hd => rfl);(case hg => rfl);(case hr => (go_simp;done));intro gb326 hg w5 hbox hb;have n0_:=Aside0.mk (below_step (by exact HB.out) hb);have n1_:=Aside0.mk (hbox);have n2_:=Aside0.mk ((by rw [hg];exact (below_size (by exact HB.out)) : w.heap.size ≤ gb326));have n3_:=Aside0.mk ((by rw [hg];exact (below_size (by exact HB.out)) : w.heap.size ≤ gb326));clear HB;have HB:=n0_;have BK326:=n1_;have GW326:=n2_;have GE326:=n3_;clear n0_ n1_ n2_ n3_;clear hb hbox hg))
 (skip)
 go_cut [17] (fun v17 wc => ∃ (kq : Nat) (x17_3 : Bool),v17 = .bool x17_3 ∧ Aside0 (impl_LongestStay.j0 kq a1 a2 x17_3 a0_0 l0_1 a0_2 = some (r1,r2)) ∧ Aside0 (kq ≤ k) ∧ Aside0 (wc.heap[gb326]? = some (.cells #[.int .i64 a0_0,(.slice A0_1 l0_1.length c0_1), .int .i64 a0_2] 38 (0,0))) ∧ Aside0 (Below w.heap.size w wc))
 case first =>
  have H:=HC4.out
  clear HC4
  replace H:=Option.bind_eq_some_iff.mp H
  obtain ⟨t327,A60,H⟩ := H
  replace H : (if t327 = true then ((impl_within.f a2 0 10000000).bind fun t328 => (impl_LongestStay.j0 k a1 a2 (!t328) a0_0 l0_1 a0_2)) else (impl_LongestStay.j0 k a1 a2 true a0_0 l0_1 a0_2)) = some (r1,r2):=H
  have A6:=Aside0.mk A60
  clear A60
  by_cases c7 : t327 = true
  ·subst c7
   have H1 : ((impl_within.f a2 0 10000000).bind fun t328 => (impl_LongestStay.j0 k a1 a2 (!t328) a0_0 l0_1 a0_2)) = some (r1,r2):=by rw [if_pos rfl] at H;exact H
   clear H
   have H:=H1
   clear H1
   replace H:=Option.bind_eq_some_iff.mp H
   obtain ⟨t328,A80,H⟩ := H
   replace H : (impl_LongestStay.j0 k a1 a2 (!t328) a0_0 l0_1 a0_2) = some (r1,r2):=H
   have A8:=Aside0.mk A80
   clear A80
   have H':=Aside0.mk H
   clear H
   have hcz9_0 : w5.cell? ⟨gb326,0,none⟩ = some (.int .i64 a0_0):=(blk_cell BK326.out 0).trans rfl
   have hcz9_1 : w5.cell? ⟨gb326,1,none⟩ = some (.slice A0_1 l0_1.length c0_1):=(blk_cell BK326.out 1).trans rfl
   have hcz9_2 : w5.cell? ⟨gb326,2,none⟩ = some (.int .i64 a0_2):=(blk_cell BK326.out 2).trans rfl
   have hfz9_0:=blk_frozen BK326.out 0
   have hfz9_1:=blk_frozen BK326.out 1
   have hfz9_2:=blk_frozen BK326.out 2
   go_wp2_with (first | ((with_reducible refine gate_callee (f:=46) rfl ?_);refine goesL_ (some 11) rfl rfl Try.func46 (by kernel_rfl) rfl #[.agg #[.int .i64 a0_0, .slice A0_1 l0_1.length c0_1, .int .i64 a0_2], .int .i64 a1, .int .i64 0] rfl (by (try simp only [List.map_toArray,List.map_cons,List.map_nil]);rfl) ?_;(with_reducible refine (impl_isStay.calls k a0_0 _ _ l0_1 a0_2 a1 0 true _ ?side1 ?side2 A6.out).mono ?_);(case side1 => repeat (exact (Kd.C_below HR0_1.out HB.out)));(case side2 => exact HC0_1.out);rintro e w10 ⟨rfl,hb⟩;refine ⟨_,rfl, ?_⟩;have n0_:=Aside0.mk (blk_below (g:=gb326) (o := .cells #[.int .i64 a0_0, .slice A0_1 l0_1.length c0_1, .int .i64 a0_2] 38 (0,0)) (by exact BK326.out) hb);have n1_:=Aside0.mk (below_step (by exact HB.out) hb);clear BK326;clear HB;have BK326:=n0_;have HB:=n1_;clear n0_ n1_;(try clear hb)) | (go_at_call 37;(with_reducible refine (impl_within.calls a2 0 10000000 t328 _ A8.out).mono ?_);rintro e w' ⟨rfl,⟨nd,rfl⟩⟩))
   go_meet
   case rel => exact ⟨_,(!t328),(by rfl),H',⟨by omega⟩,⟨by (with_reducible repeat (refine blk_drewN ?_ _));exact BK326.out⟩,⟨by repeat ((with_reducible first | exact HB.out | apply pw_below_drewN))⟩⟩
  ·replace c7:=Bool.eq_false_iff.mpr c7
   subst c7
   have H1 : (impl_LongestStay.j0 k a1 a2 true a0_0 l0_1 a0_2) = some (r1,r2):=by rw [if_neg (show ¬ (false = true) by decide)] at H;exact H
   clear H
   have H:=H1
   clear H1
   have H':=Aside0.mk H
   clear H
   have hcz11_0 : w5.cell? ⟨gb326,0,none⟩ = some (.int .i64 a0_0):=(blk_cell BK326.out 0).trans rfl
   have hcz11_1 : w5.cell? ⟨gb326,1,none⟩ = some (.slice A0_1 l0_1.length c0_1):=(blk_cell BK326.out 1).trans rfl
   have hcz11_2 : w5.cell? ⟨gb326,2,none⟩ = some (.int .i64 a0_2):=(blk_cell BK326.out 2).trans rfl
   have hfz11_0:=blk_frozen BK326.out 0
   have hfz11_1:=blk_frozen BK326.out 1
   have hfz11_2:=blk_frozen BK326.out 2
   go_wp2_with (((with_reducible refine gate_callee (f:=46) rfl ?_);refine goesL_ (some 11) rfl rfl Try.func46 (by kernel_rfl) rfl #[.agg #[.int .i64 a0_0, .slice A0_1 l0_1.length c0_1, .int .i64 a0_2], .int .i64 a1, .int .i64 0] rfl (by (try simp only [List.map_toArray,List.map_cons,List.map_nil]);rfl) ?_;(with_reducible refine (impl_isStay.calls k a0_0 _ _ l0_1 a0_2 a1 0 false _ ?side1 ?side2 A6.out).mono ?_);(case side1 => repeat (exact (Kd.C_below HR0_1.out HB.out)));(case side2 => exact HC0_1.out);rintro e w12 ⟨rfl,hb⟩;refine ⟨_,rfl, ?_⟩;have n0_:=Aside0.mk (blk_below (g:=gb326) (o := .cells #[.int .i64 a0_0, .slice A0_1 l0_1.length c0_1, .int .i64 a0_2] 38 (0,0)) (by exact BK326.out) hb);have n1_:=Aside0.mk (below_step (by exact HB.out) hb);clear BK326;clear HB;have BK326:=n0_;have HB:=n1_;clear n0_ n1_;(try clear hb)))
   go_meet
   case rel => exact ⟨_,(true),(by rfl),H',⟨by omega⟩,⟨by exact BK326.out⟩,⟨by exact HB.out⟩⟩
 case rest =>
  clear HC4
  try clear c2
  try clear p2
  try clear c4
  try clear c7
  try clear hcz11_0
  try clear hcz11_1
  try clear hcz11_2
  try clear hcz9_0
  try clear hcz9_1
  try clear hcz9_2
  try clear hfz11_0
  try clear hfz11_1
  try clear hfz11_2
  try clear hfz9_0
  try clear hfz9_1
  try clear hfz9_2
  obtain ⟨kq,x17_3,rfl,HA,HJ3,BK326,HB⟩ := hcut
  cases kq with
  | zero => exact absurd HA.out (by simp [impl_LongestStay.j0])
  | succ kj3 =>
   have H:=HA.out
   clear HA
   simp only [impl_LongestStay.j0] at H
   by_cases c13 : x17_3 = true
   ·subst c13
    have H1 : (some (0,false)) = some (r1,r2):=by rw [if_pos rfl] at H;exact H
    clear H
    have H:=H1
    clear H1
    simp only [Option.some.injEq,Prod.mk.injEq] at H
    obtain ⟨rfl,rfl⟩ := H
    go_wp2
    go_ret2
    exact ⟨by rfl,by exact HB.out⟩
   ·replace c13:=Bool.eq_false_iff.mpr c13
    subst c13
    have H1 : (impl_LongestStay.l0 kj3 a1 a2 0 a0_0 l0_1 a0_2) = some (r1,r2):=by rw [if_neg (show ¬ (false = true) by decide)] at H;exact H
    clear H
    have H:=H1
    clear H1
    have H':=Aside0.mk H
    clear H
    go_wp2
    (skip)
    go_loopg [8] kj3 (fun kq v8 w' => ∃ (x8_2 : Int),v8 = .int .i64 x8_2 ∧ Aside0 (impl_LongestStay.l0 kq a1 a2 x8_2 a0_0 l0_1 a0_2 = some (r1,r2)) ∧ Aside0 (kq ≤ kj3) ∧ Aside0 (w'.heap[gb326]? = some (.cells #[.int .i64 a0_0,(.slice A0_1 l0_1.length c0_1), .int .i64 a0_2] 38 (0,0))) ∧ Aside0 (Below w.heap.size w w'))
    case atStart => exact ⟨(0),(by rfl),H',⟨Nat.le_refl _⟩,⟨by exact BK326.out⟩,⟨by exact HB.out⟩⟩
    case round =>
     clear H'
     try clear c1
     try clear c2
     try clear p2
     try clear c4
     try clear c7
     try clear c13
     try clear hcz11_0
     try clear hcz11_1
     try clear hcz11_2
     try clear hcz9_0
     try clear hcz9_1
     try clear hcz9_2
     try clear hfz11_0
     try clear hfz11_1
     try clear hfz11_2
     try clear hfz9_0
     try clear hfz9_1
     try clear hfz9_2
     try clear p2
     obtain ⟨x8_2,rfl,HA,HK2,BK326,HB⟩ := hrel
     cases gk with
     | zero => exact absurd HA.out (by simp [impl_LongestStay.l0])
     | succ k2 =>
      have H:=HA.out
      clear HA
      simp only [impl_LongestStay.l0] at H
      by_cases c14 : x8_2 < 400
      ·rw [if_pos c14] at H
       have c14b0 : decide (x8_2 < 400) = true:=decide_eq_true c14
       clear c14
       replace H:=Option.bind_eq_some_iff.mp H
       obtain ⟨t329,A150,H⟩ := H
       replace H : (if t329 ≤ a2 then (impl_LongestStay.l0 k2 a1 a2 (wrap64 (x8_2 + 1)) a0_0 l0_1 a0_2) else (some (x8_2,true))) = some (r1,r2):=H
       have A15:=Aside0.mk A150
       clear A150
       by_cases c16 : t329 ≤ a2
       ·rw [if_pos c16] at H
        have c16b0 : decide (t329 ≤ a2) = true:=decide_eq_true c16
        clear c16
        have H':=Aside0.mk H
        clear H
        have hcz17_0 : wr.cell? ⟨gb326,0,none⟩ = some (.int .i64 a0_0):=(blk_cell BK326.out 0).trans rfl
        have hcz17_1 : wr.cell? ⟨gb326,1,none⟩ = some (.slice A0_1 l0_1.length c0_1):=(blk_cell BK326.out 1).trans rfl
        have hcz17_2 : wr.cell? ⟨gb326,2,none⟩ = some (.int .i64 a0_2):=(blk_cell BK326.out 2).trans rfl
        have hfz17_0:=blk_frozen BK326.out 0
        have hfz17_1:=blk_frozen BK326.out 1
        have hfz17_2:=blk_frozen BK326.out 2
        go_wp2_with ((go_at_call 47;(with_reducible refine (impl_stayCharge.calls k2 a0_0 _ _ l0_1 a0_2 a1 (wrap64 (x8_2 + 1)) t329 _ ?side1 ?side2 A15.out).mono ?_);(case side1 => repeat (exact (Kd.C_below HR0_1.out HB.out)));(case side2 => exact HC0_1.out);rintro e w18 ⟨rfl,hb⟩;have n0_:=Aside0.mk (blk_below (g:=gb326) (o := .cells #[.int .i64 a0_0, .slice A0_1 l0_1.length c0_1, .int .i64 a0_2] 38 (0,0)) (by exact BK326.out) hb);have n1_:=Aside0.mk (below_step (by exact HB.out) hb);clear BK326;clear HB;have BK326:=n0_;have HB:=n1_;clear n0_ n1_;(try clear hb)))
        go_roundg k2
        case measure => have:=HJ3.out;have:=HK2.out;omega
        case rel => exact ⟨(wrap64 (x8_2 + 1)),(by rfl),H',⟨by have:=HJ3.out;have:=HK2.out;omega⟩,⟨by exact BK326.out⟩,⟨by exact HB.out⟩⟩
       ·rw [if_neg c16] at H
        have c16b0 : decide (t329 ≤ a2) = false:=decide_eq_false c16
        clear c16
        simp only [Option.some.injEq,Prod.mk.injEq] at H
        obtain ⟨rfl,rfl⟩ := H
        have hcz19_0 : wr.cell? ⟨gb326,0,none⟩ = some (.int .i64 a0_0):=(blk_cell BK326.out 0).trans rfl
        have hcz19_1 : wr.cell? ⟨gb326,1,none⟩ = some (.slice A0_1 l0_1.length c0_1):=(blk_cell BK326.out 1).trans rfl
        have hcz19_2 : wr.cell? ⟨gb326,2,none⟩ = some (.int .i64 a0_2):=(blk_cell BK326.out 2).trans rfl
        have hfz19_0:=blk_frozen BK326.out 0
        have hfz19_1:=blk_frozen BK326.out 1
        have hfz19_2:=blk_frozen BK326.out 2
        go_wp2_with ((go_at_call 47;(with_reducible refine (impl_stayCharge.calls k2 a0_0 _ _ l0_1 a0_2 a1 (wrap64 (x8_2 + 1)) t329 _ ?side1 ?side2 A15.out).mono ?_);(case side1 => repeat (exact (Kd.C_below HR0_1.out HB.out)));(case side2 => exact HC0_1.out);rintro e w20 ⟨rfl,hb⟩;have n0_:=Aside0.mk (blk_below (g:=gb326) (o := .cells #[.int .i64 a0_0, .slice A0_1 l0_1.length c0_1, .int .i64 a0_2] 38 (0,0)) (by exact BK326.out) hb);have n1_:=Aside0.mk (below_step (by exact HB.out) hb);clear BK326;clear HB;have BK326:=n0_;have HB:=n1_;clear n0_ n1_;(try clear hb)))
        go_ret2
        exact ⟨by rfl,by exact HB.out⟩
      ·rw [if_neg c14] at H
       have c14b0 : decide (x8_2 < 400) = false:=decide_eq_false c14
       clear c14
       simp only [Option.some.injEq,Prod.mk.injEq] at H
       obtain ⟨rfl,rfl⟩ := H
       go_wp2
       go_ret2
       exact ⟨by rfl,by exact HB.out⟩

end Go.Proofs.Ytafdafmoiocjgaa.PFnCharges
