-- Written by a program of this session, over the kit's print (wip/xprint.py)
import Derived.Test.YtciecfaeeogdoaaGreatDoorPFnTariffsx0
import Derived.Test.YtciecfaeeogdoaaGreatDoorPFnTariffsx5
import Derived.Test.YtciecfaeeogdoaaGreatDoorPFnTariffsx12
namespace Go.Proofs.YtciecfaeeogdoaaGreatDoor.PFnTariffs
open Go.RowKit Go.Proofs.YtciecfaeeogdoaaGreatDoorW.PrintWords Go.Proofs.YtciecfaeeogdoaaGreatDoorW.PrintLast Go.Proofs.YtciecfaeeogdoaaGreatDoorW.PrintMore
attribute [local go_sem] max2_int min2_int max_two min_two max_three min_three max_four min_four   -- for this text's walks alone
set_option linter.unusedVariables false
set_option linter.unusedSimpArgs false

/-! ### impl_CheaperCharge: function 13 -/
def impl_CheaperCharge.j0 : Nat → Int → Int → Bool → Int → List (S45) → Int → Int → List (S45) → Int → Option (Int × Bool)
 | 0,_,_,_,_,_,_,_,_,_ => none
 | k + 1,x2,x3,x23,x458000,x458001,x458002,x459000,x459001,x459002 => if x23 = true then (some (0,false)) else ((impl_stayCharge.f k x458000 x458001 x458002 x2 x3).bind fun t461 => ((impl_stayCharge.f k x459000 x459001 x459002 x2 x3).bind fun t462 => (if t461 < t462 then (some (1,true)) else (if t462 < t461 then (some (2,true)) else (some (0,true))))))
def impl_CheaperCharge.f (k : Nat) (a0_0 : Int) (l0_1 : List (S45)) (a0_2 : Int) (a1_0 : Int) (l1_1 : List (S45)) (a1_2 : Int) (a2 : Int) (a3 : Int) : Option (Int × Bool):=(impl_isStay.f k a0_0 l0_1 a0_2 a2 a3).bind fun t459 => (if t459 = true then ((impl_isStay.f k a1_0 l1_1 a1_2 a2 a3).bind fun t460 => (impl_CheaperCharge.j0 k a2 a3 (!t460) a0_0 l0_1 a0_2 a1_0 l1_1 a1_2)) else (impl_CheaperCharge.j0 k a2 a3 true a0_0 l0_1 a0_2 a1_0 l1_1 a1_2))
theorem impl_CheaperCharge.mono_l : ∀ k,(∀ y0 y1 y2 y3 y4 y5 y6 y7 y8,LeO (impl_CheaperCharge.j0 k y0 y1 y2 y3 y4 y5 y6 y7 y8) (impl_CheaperCharge.j0 (k + 1) y0 y1 y2 y3 y4 y5 y6 y7 y8))
 | 0 => fun _ _ _ _ _ _ _ _ _ r h => by simp [impl_CheaperCharge.j0] at h
 | k + 1 => by
  have ih0:=impl_CheaperCharge.mono_l k
  ·intro y0 y1 y2 y3 y4 y5 y6 y7 y8
   unfold impl_CheaperCharge.j0
   repeat' first
   | (with_reducible exact ih0 _ _ _ _ _ _ _ _ _)
   | (with_reducible exact impl_isStay.mono _ _ _ _ _ _)
   | (with_reducible exact impl_stayCharge.mono _ _ _ _ _ _)
   | (with_reducible exact LeO.refl _)
   | (with_reducible exact LeO.none _)
   | (with_reducible refine LeO.ite ?_ ?_)
   | (with_reducible refine LeO.bind ?_ (fun _ => ?_))
   | exact ih0 _ _ _ _ _ _ _ _ _
   | exact impl_isStay.mono _ _ _ _ _ _
   | exact impl_stayCharge.mono _ _ _ _ _ _
   | exact LeO.none _
   | refine LeO.ite ?_ ?_
   | refine LeO.bind ?_ (fun _ => ?_)
theorem impl_CheaperCharge.mono : ∀ a0 a1 a2 a3 a4 a5 a6 a7 k,LeO (impl_CheaperCharge.f k a0 a1 a2 a3 a4 a5 a6 a7) (impl_CheaperCharge.f (k + 1) a0 a1 a2 a3 a4 a5 a6 a7):=by
 intro a0 a1 a2 a3 a4 a5 a6 a7 k;have ih0:=impl_CheaperCharge.mono_l k
 unfold impl_CheaperCharge.f
 repeat' first
   | (with_reducible exact ih0 _ _ _ _ _ _ _ _ _)
   | (with_reducible exact impl_isStay.mono _ _ _ _ _ _)
   | (with_reducible exact impl_stayCharge.mono _ _ _ _ _ _)
   | (with_reducible exact LeO.refl _)
   | (with_reducible exact LeO.none _)
   | (with_reducible refine LeO.ite ?_ ?_)
   | (with_reducible refine LeO.bind ?_ (fun _ => ?_))
   | exact ih0 _ _ _ _ _ _ _ _ _
   | exact impl_isStay.mono _ _ _ _ _ _
   | exact impl_stayCharge.mono _ _ _ _ _ _
   | exact LeO.none _
   | refine LeO.ite ?_ ?_
   | refine LeO.bind ?_ (fun _ => ?_)
def impl_CheaperCharge.T3 : Bool × List (List Nat × List Nat):=(true,[([],[]),([],[]),([],[]),([0,1,2],[0,1,2]),([],[]),([],[]),([],[]),([4,5,6,3],[4,5,6]),([3,7,0,1,2,3],[3]),([7,8,0,1,2,3,4,5,6,7,8],[7])])
def impl_CheaperCharge.B3 : List Nat := [0,0,0,7,0,0,0,127,255,511]
theorem impl_CheaperCharge.tab3 : rtab .any (opsOf Tryz.f13 3) = impl_CheaperCharge.T3:=by kernel_rfl
theorem impl_CheaperCharge.bits3 : waitsOk impl_CheaperCharge.T3.2 impl_CheaperCharge.B3 = true:=by kernel_rfl
set_option maxHeartbeats 8000000 in
set_option maxRecDepth 100000 in
theorem impl_CheaperCharge.calls (k : Nat) (a0_0 : Int) (A0_1 : Option Addr) (c0_1 : Nat) (l0_1 : List (S45)) (a0_2 : Int) (a1_0 : Int) (A1_1 : Option Addr) (c1_1 : Nat) (l1_1 : List (S45)) (a1_2 : Int) (a2 : Int) (a3 : Int) (r1 : Int) (r2 : Bool) (w : World) (hr0_1 : Kd.C k45 w A0_1 l0_1.length l0_1) (hc0_1 : l0_1.length ≤ c0_1) (hr1_1 : Kd.C k45 w A1_1 l1_1.length l1_1) (hc1_1 : l1_1.length ≤ c1_1) (h : impl_CheaperCharge.f k a0_0 l0_1 a0_2 a1_0 l1_1 a1_2 a2 a3 = some (r1,r2)) :
  Calls Tryz.prog 13 #[.agg #[.int .i64 a0_0, .slice A0_1 l0_1.length c0_1, .int .i64 a0_2], .agg #[.int .i64 a1_0, .slice A1_1 l1_1.length c1_1, .int .i64 a1_2], .int .i64 a2, .int .i64 a3] w fun e w' => e = .returned (.tuple #[.int .i64 r1, .bool r2]) ∧ Below w.heap.size w w':=by
 have hu26:=Tryz.underlying26;have HR0_1:=am_ hr0_1;have HC0_1:=am_ hc0_1;clear hr0_1 hc0_1;have HR1_1:=am_ hr1_1;have HC1_1:=am_ hc1_1;clear hr1_1 hc1_1;have HB:=am_ (Below.refl w.heap.size w);have H : ((impl_isStay.f k a0_0 l0_1 a0_2 a2 a3).bind fun t459 => (if t459 = true then ((impl_isStay.f k a1_0 l1_1 a1_2 a2 a3).bind fun t460 => (impl_CheaperCharge.j0 k a2 a3 (!t460) a0_0 l0_1 a0_2 a1_0 l1_1 a1_2)) else (impl_CheaperCharge.j0 k a2 a3 true a0_0 l0_1 a0_2 a1_0 l1_1 a1_2))) = some (r1,r2):=h;clear h;have HC5:=am_ H;clear H
 go_enter Tryz.func13,Tryz.ntmps13
 go_upto_region 1 with (first | ((with_reducible refine gate_dst (N:=4) rfl ?_);refine box_event ?hg (N:=4) ?hd (cs:=#[.int .i64 a0_0, .slice A0_1 l0_1.length c0_1, .int .i64 a0_2]) (t:=26) ?hr ?_;(case hd => rfl);(case hg => rfl);(case hr => (go_simp;done));intro gb457 hg w6 hbox hb;have n0_:=am_ (below_step (by exact HB.out) hb);have n1_:=am_ hbox;have n2_:=am_ (ge_ hg (by exact HB.out));have n3_:=am_ (ge_ hg (by exact HB.out));clear HB;have HB:=n0_;have BK457:=n1_;have GW457:=n2_;have GE457:=n3_;clear n0_ n1_ n2_ n3_;clear hb hbox hg) | ((with_reducible refine gate_dst (N:=5) rfl ?_);refine box_event ?hg (N:=5) ?hd (cs:=#[.int .i64 a1_0, .slice A1_1 l1_1.length c1_1, .int .i64 a1_2]) (t:=26) ?hr ?_;(case hd => rfl);(case hg => rfl);(case hr => (go_simp;done));intro gb458 hg w7 hbox hb;have n0_:=am_ (blk_below (by exact BK457.out) hb);have n1_:=am_ (below_step (by exact HB.out) hb);have n2_:=am_ hbox;have n3_:=am_ (ge_ hg (by exact HB.out));have n4_:=am_ (ge_ hg (by exact HB.out));have n5_:=am_ (nl_ hg (by exact BK457.out));have n6_:=am_ (ng_ hg (by exact BK457.out));clear BK457;clear HB;have BK457:=n0_;have HB:=n1_;have BK458:=n2_;have GW458:=n3_;have GE458:=n4_;have NB457_458:=n5_;have NB458_457:=n6_;clear n0_ n1_ n2_ n3_ n4_ n5_ n6_;clear hb hbox hg))
 (skip)
 go_cut [23] (fun v23 wc => ∃ (kq : Nat) (x23_4 : Bool),v23 = .bool x23_4 ∧ Aside0 (impl_CheaperCharge.j0 kq a2 a3 x23_4 a0_0 l0_1 a0_2 a1_0 l1_1 a1_2 = some (r1,r2)) ∧ Aside0 (kq ≤ k) ∧ Aside0 (wc.heap[gb457]? = some (.cells #[.int .i64 a0_0,(.slice A0_1 l0_1.length c0_1), .int .i64 a0_2] 26 (0,0))) ∧ Aside0 (wc.heap[gb458]? = some (.cells #[.int .i64 a1_0,(.slice A1_1 l1_1.length c1_1), .int .i64 a1_2] 26 (0,0))) ∧ Aside0 (Below w.heap.size w wc))
 case first =>
  have H:=HC5.out;clear HC5;replace H:=Option.bind_eq_some_iff.mp H;obtain ⟨t459,A80,H⟩ := H;replace H : (if t459 = true then ((impl_isStay.f k a1_0 l1_1 a1_2 a2 a3).bind fun t460 => (impl_CheaperCharge.j0 k a2 a3 (!t460) a0_0 l0_1 a0_2 a1_0 l1_1 a1_2)) else (impl_CheaperCharge.j0 k a2 a3 true a0_0 l0_1 a0_2 a1_0 l1_1 a1_2)) = some (r1,r2):=H;have A8:=am_ A80;clear A80
  by_cases c9 : t459 = true
  ·subst c9
   have H1 : ((impl_isStay.f k a1_0 l1_1 a1_2 a2 a3).bind fun t460 => (impl_CheaperCharge.j0 k a2 a3 (!t460) a0_0 l0_1 a0_2 a1_0 l1_1 a1_2)) = some (r1,r2):=by rw [if_pos rfl] at H;exact H
   clear H;have H:=H1;clear H1;replace H:=Option.bind_eq_some_iff.mp H;obtain ⟨t460,A100,H⟩ := H;replace H : (impl_CheaperCharge.j0 k a2 a3 (!t460) a0_0 l0_1 a0_2 a1_0 l1_1 a1_2) = some (r1,r2):=H;have A10:=am_ A100;clear A100;have H':=am_ H;clear H;have hnb11:=NB457_458.out;have hnc11:=NB458_457.out;have hcz12_0:=c3_0 BK457.out;have hcz12_1:=c3_1 BK457.out;have hcz12_2:=c3_2 BK457.out;have hfz12_0:=blk_frozen BK457.out 0;have hfz12_1:=blk_frozen BK457.out 1;have hfz12_2:=blk_frozen BK457.out 2
   go_wp2_with (first | ((with_reducible refine gate_callee (f:=36) rfl ?_);refine goesL_ (some 15) rfl rfl Tryz.func36 (by kernel_rfl) rfl #[.agg #[.int .i64 a0_0, .slice A0_1 l0_1.length c0_1, .int .i64 a0_2], .int .i64 a2, .int .i64 a3] rfl (by (try simp only [List.map_toArray,List.map_cons,List.map_nil]);rfl) ?_;(with_reducible refine (impl_isStay.calls k a0_0 _ _ l0_1 a0_2 a2 a3 true _ ?side1 ?side2 A8.out).mono ?_);(case side1 => repeat (exact (Kd.C_below HR0_1.out HB.out)));(case side2 => exact HC0_1.out);rintro e w13 ⟨rfl,hb⟩;refine ⟨_,rfl, ?_⟩;have n0_:=am_ (blk_below (by exact BK457.out) hb);have n1_:=am_ (blk_below (by exact BK458.out) hb);have n2_:=am_ (below_step (by exact HB.out) hb);clear BK457;clear BK458;clear HB;have BK457:=n0_;have BK458:=n1_;have HB:=n2_;clear n0_ n1_ n2_;(try clear hb);have hcz14_0:=c3_0 BK458.out;have hcz14_1:=c3_1 BK458.out;have hcz14_2:=c3_2 BK458.out;have hfz14_0:=blk_frozen BK458.out 0;have hfz14_1:=blk_frozen BK458.out 1;have hfz14_2:=blk_frozen BK458.out 2) | (go_at_call 36;(with_reducible refine (impl_isStay.calls k a1_0 _ _ l1_1 a1_2 a2 a3 t460 _ ?side1 ?side2 A10.out).mono ?_);(case side1 => repeat (exact (Kd.C_below HR1_1.out HB.out)));(case side2 => exact HC1_1.out);rintro e w15 ⟨rfl,hb⟩;have n0_:=am_ (blk_below (by exact BK457.out) hb);have n1_:=am_ (blk_below (by exact BK458.out) hb);have n2_:=am_ (below_step (by exact HB.out) hb);clear BK457;clear BK458;clear HB;have BK457:=n0_;have BK458:=n1_;have HB:=n2_;clear n0_ n1_ n2_;(try clear hb)))
   go_meet
   case rel => exact ⟨_,(!t460),(by rfl),H',⟨by omega⟩,⟨by exact BK457.out⟩,⟨by exact BK458.out⟩,⟨by exact HB.out⟩⟩
  ·replace c9:=Bool.eq_false_iff.mpr c9;subst c9
   have H1 : (impl_CheaperCharge.j0 k a2 a3 true a0_0 l0_1 a0_2 a1_0 l1_1 a1_2) = some (r1,r2):=by rw [if_neg (show ¬ (false = true) by decide)] at H;exact H
   clear H;have H:=H1;clear H1;have H':=am_ H;clear H;have hnb16:=NB457_458.out;have hnc16:=NB458_457.out;have hcz17_0:=c3_0 BK457.out;have hcz17_1:=c3_1 BK457.out;have hcz17_2:=c3_2 BK457.out;have hfz17_0:=blk_frozen BK457.out 0;have hfz17_1:=blk_frozen BK457.out 1;have hfz17_2:=blk_frozen BK457.out 2
   go_wp2_with (((with_reducible refine gate_callee (f:=36) rfl ?_);refine goesL_ (some 15) rfl rfl Tryz.func36 (by kernel_rfl) rfl #[.agg #[.int .i64 a0_0, .slice A0_1 l0_1.length c0_1, .int .i64 a0_2], .int .i64 a2, .int .i64 a3] rfl (by (try simp only [List.map_toArray,List.map_cons,List.map_nil]);rfl) ?_;(with_reducible refine (impl_isStay.calls k a0_0 _ _ l0_1 a0_2 a2 a3 false _ ?side1 ?side2 A8.out).mono ?_);(case side1 => repeat (exact (Kd.C_below HR0_1.out HB.out)));(case side2 => exact HC0_1.out);rintro e w18 ⟨rfl,hb⟩;refine ⟨_,rfl, ?_⟩;have n0_:=am_ (blk_below (by exact BK457.out) hb);have n1_:=am_ (blk_below (by exact BK458.out) hb);have n2_:=am_ (below_step (by exact HB.out) hb);clear BK457;clear BK458;clear HB;have BK457:=n0_;have BK458:=n1_;have HB:=n2_;clear n0_ n1_ n2_;(try clear hb)))
   go_meet
   case rel => exact ⟨_,(true),(by rfl),H',⟨by omega⟩,⟨by exact BK457.out⟩,⟨by exact BK458.out⟩,⟨by exact HB.out⟩⟩
 case rest =>
  clear HC5;(try clear c1);(try clear p2);(try clear c3);(try clear c9);(try clear c11);(try clear c13);(try clear c16);(try clear hcz12_0);(try clear hcz12_1);(try clear hcz12_2);(try clear hcz14_0);(try clear hcz14_1);(try clear hcz14_2);(try clear hcz17_0);(try clear hcz17_1);(try clear hcz17_2);(try clear hfz12_0);(try clear hfz12_1);(try clear hfz12_2);(try clear hfz14_0);(try clear hfz14_1);(try clear hfz14_2);(try clear hfz17_0);(try clear hfz17_1);(try clear hfz17_2);obtain ⟨kq,x23_4,rfl,HA,HJ4,BK457,BK458,HB⟩ := hcut
  cases kq with
  | zero => exact absurd HA.out (by simp [impl_CheaperCharge.j0])
  | succ kj4 =>
   have H:=HA.out;clear HA;simp only [impl_CheaperCharge.j0] at H
   by_cases c19 : x23_4 = true
   ·subst c19
    have H1 : (some (0,false)) = some (r1,r2):=by rw [if_pos rfl] at H;exact H
    clear H;have H:=H1;clear H1;simp only [Option.some.injEq,Prod.mk.injEq] at H;obtain ⟨rfl,rfl⟩ := H
    go_wp2
    go_ret2
    exact ⟨by rfl,by exact HB.out⟩
   ·replace c19:=Bool.eq_false_iff.mpr c19;subst c19
    have H1 : ((impl_stayCharge.f kj4 a0_0 l0_1 a0_2 a2 a3).bind fun t461 => ((impl_stayCharge.f kj4 a1_0 l1_1 a1_2 a2 a3).bind fun t462 => (if t461 < t462 then (some (1,true)) else (if t462 < t461 then (some (2,true)) else (some (0,true)))))) = some (r1,r2):=by rw [if_neg (show ¬ (false = true) by decide)] at H;exact H
    clear H;have H:=H1;clear H1;replace H:=Option.bind_eq_some_iff.mp H;obtain ⟨t461,A200,H⟩ := H;replace H : ((impl_stayCharge.f kj4 a1_0 l1_1 a1_2 a2 a3).bind fun t462 => (if t461 < t462 then (some (1,true)) else (if t462 < t461 then (some (2,true)) else (some (0,true))))) = some (r1,r2):=H;have A20:=am_ A200;clear A200;replace H:=Option.bind_eq_some_iff.mp H;obtain ⟨t462,A210,H⟩ := H;replace H : (if t461 < t462 then (some (1,true)) else (if t462 < t461 then (some (2,true)) else (some (0,true)))) = some (r1,r2):=H;have A21:=am_ A210;clear A210
    by_cases c22 : t461 < t462
    ·rw [if_pos c22] at H;have c22b0 : decide (t461 < t462) = true:=decide_eq_true c22;clear c22;simp only [Option.some.injEq,Prod.mk.injEq] at H;obtain ⟨rfl,rfl⟩ := H
     try go_wp2
     have n0_:=am_ (blk_drew BK457.out);have n1_:=am_ (blk_drew BK458.out);have n2_:=am_ (below_drew1 HB.out);clear BK457;clear BK458;clear HB;have BK457:=n0_;have BK458:=n1_;have HB:=n2_;clear n0_ n1_ n2_
     refine start_ (n:=10) (S:=fun w' => w'.cell? ⟨gb457,0,none⟩ = some (.int .i64 a0_0) ∧ w'.cell? ⟨gb457,1,none⟩ = some (.slice A0_1 l0_1.length c0_1) ∧ w'.cell? ⟨gb457,2,none⟩ = some (.int .i64 a0_2) ∧ w'.cell? ⟨gb458,0,none⟩ = some (.int .i64 a1_0) ∧ w'.cell? ⟨gb458,1,none⟩ = some (.slice A1_1 l1_1.length c1_1) ∧ w'.cell? ⟨gb458,2,none⟩ = some (.int .i64 a1_2)) (ds := []) #[false,false,false,false,false,false,false,false,false,false] (by kernel_rfl) rfl rfl ⟨(blk_cell BK457.out 0).trans rfl,(blk_cell BK457.out 1).trans rfl,(blk_cell BK457.out 2).trans rfl,(blk_cell BK458.out 0).trans rfl,(blk_cell BK458.out 1).trans rfl,(blk_cell BK458.out 2).trans rfl⟩ (fun hHeld => ?_);refine with_tabW impl_CheaperCharge.tab3 impl_CheaperCharge.bits3 (fun HT_ HW_ => ?_)
     generalize wc.drew = w23 at BK457 BK458 HB hHeld ⊢;refine pure_ (i:=1) (N:=some 25) (v:=?_) (a':=?_) #[false,true,false,false,false,false,false,false,false,false] rfl rfl (any_of HT_.out (by kernel_rfl)) (fun _ _ _ h => h) (Or.inl ⟨by rfl, ?_⟩) ?_ ?_
     rotate_left
     ·intro w'
      go_simp
      with_reducible rfl
     rotate_left
     ·simp only [Act.put,sA_,s0_,s1_,i64_w,i32_w]
      rfl
     refine pure_ (i:=2) (N:=some 26) (v:=?_) (a':=?_) #[false,true,true,false,false,false,false,false,false,false] rfl rfl (any_of HT_.out (by kernel_rfl)) (fun _ _ _ h => h) (Or.inl ⟨by rfl, ?_⟩) ?_ ?_
     rotate_left
     ·intro w'
      go_simp
      with_reducible rfl
     rotate_left
     ·simp only [Act.put,sA_,s0_,s1_,i64_w,i32_w]
      rfl
     refine pure_ (i:=5) (N:=some 29) (v:=?_) (a':=?_) #[false,true,true,false,false,true,false,false,false,false] rfl rfl (any_of HT_.out (by kernel_rfl)) (fun _ _ _ h => h) (Or.inl ⟨by rfl, ?_⟩) ?_ ?_
     rotate_left
     ·intro w'
      go_simp
      with_reducible rfl
     rotate_left
     ·simp only [Act.put,sA_,s0_,s1_,i64_w,i32_w]
      rfl
     refine pure_ (i:=6) (N:=some 30) (v:=?_) (a':=?_) #[false,true,true,false,false,true,true,false,false,false] rfl rfl (any_of HT_.out (by kernel_rfl)) (fun _ _ _ h => h) (Or.inl ⟨by rfl, ?_⟩) ?_ ?_
     rotate_left
     ·intro w'
      go_simp
      with_reducible rfl
     rotate_left
     ·simp only [Act.put,sA_,s0_,s1_,i64_w,i32_w]
      rfl
     refine take_ (i:=0) (N:=some 24) (v:=?_) (a':=?_) #[true,true,true,false,false,true,true,false,false,false] rfl rfl (take_ofW HT_.out HW_.out (by kernel_rfl)) (fun _ _ _ h => h) (Or.inl ⟨by rfl, ?_⟩) hHeld ?_ ?_
     rotate_left
     ·rintro w' ⟨s0,s1,s2,s3,s4,s5⟩
      go_simp
      with_reducible rfl
     rotate_left
     ·simp only [Act.put,sA_,s0_,s1_,i64_w,i32_w]
      rfl
     refine take_ (i:=4) (N:=some 28) (v:=?_) (a':=?_) #[true,true,true,false,true,true,true,false,false,false] rfl rfl (take_ofW HT_.out HW_.out (by kernel_rfl)) (fun _ _ _ h => h) (Or.inl ⟨by rfl, ?_⟩) hHeld ?_ ?_
     rotate_left
     ·rintro w' ⟨s0,s1,s2,s3,s4,s5⟩
      go_simp
      with_reducible rfl
     rotate_left
     ·simp only [Act.put,sA_,s0_,s1_,i64_w,i32_w]
      rfl
     refine one_ (i:=3) (N:=some 27) #[true,true,true,true,true,true,true,false,false,false] rfl rfl (one_of HT_.out (by kernel_rfl)) (by decide) (fun K hK => ?_);refine goes_ Tryz.func37 (by kernel_rfl) rfl #[.agg #[.int .i64 a0_0, .slice A0_1 l0_1.length c0_1, .int .i64 a0_2], .int .i64 a2, .int .i64 a3] (by rfl) rfl rfl (by (try simp only [List.map_toArray,List.map_cons,List.map_nil]);rfl) ?_
     with_reducible refine (impl_stayCharge.calls kj4 a0_0 _ _ l0_1 a0_2 a2 a3 t461 _ ?side1 ?side2 A20.out).mono ?_
     (case side1 => repeat (exact (Kd.C_below HR0_1.out HB.out)))
     (case side2 => exact HC0_1.out)
     rintro e w24 ⟨rfl,hb⟩;refine ⟨_,rfl, ?_⟩;have n0_:=am_ (blk_below (by exact BK457.out) hb);have n1_:=am_ (blk_below (by exact BK458.out) hb);have n2_:=am_ (below_step (by exact HB.out) hb);clear BK457;clear BK458;clear HB;have BK457:=n0_;have BK458:=n1_;have HB:=n2_;clear n0_ n1_ n2_;(try clear hb)
     (skip)
     (skip)
     (skip)
     refine hK.out _ _ ⟨(blk_cell BK457.out 0).trans rfl,(blk_cell BK457.out 1).trans rfl,(blk_cell BK457.out 2).trans rfl,(blk_cell BK458.out 0).trans rfl,(blk_cell BK458.out 1).trans rfl,(blk_cell BK458.out 2).trans rfl⟩ (fun hHeld => ?_);clear hK K;refine norm_ (a':=?_) ?_ ?_
     rotate_left
     ·show Act.put _ (some 27) _ = _
      simp only [Act.put,sA_,s0_,s1_,i64_w,i32_w]
      rfl
     refine one_ (i:=7) (N:=some 31) #[true,true,true,true,true,true,true,true,false,false] rfl rfl (one_of HT_.out (by kernel_rfl)) (by decide) (fun K hK => ?_);refine goes_ Tryz.func37 (by kernel_rfl) rfl #[.agg #[.int .i64 a1_0, .slice A1_1 l1_1.length c1_1, .int .i64 a1_2], .int .i64 a2, .int .i64 a3] (by rfl) rfl rfl (by (try simp only [List.map_toArray,List.map_cons,List.map_nil]);rfl) ?_
     with_reducible refine (impl_stayCharge.calls kj4 a1_0 _ _ l1_1 a1_2 a2 a3 t462 _ ?side1 ?side2 A21.out).mono ?_
     (case side1 => repeat (exact (Kd.C_below HR1_1.out HB.out)))
     (case side2 => exact HC1_1.out)
     rintro e w25 ⟨rfl,hb⟩;refine ⟨_,rfl, ?_⟩;have n0_:=am_ (blk_below (by exact BK457.out) hb);have n1_:=am_ (blk_below (by exact BK458.out) hb);have n2_:=am_ (below_step (by exact HB.out) hb);clear BK457;clear BK458;clear HB;have BK457:=n0_;have BK458:=n1_;have HB:=n2_;clear n0_ n1_ n2_;(try clear hb)
     (skip)
     (skip)
     (skip)
     refine hK.out _ _ ⟨(blk_cell BK457.out 0).trans rfl,(blk_cell BK457.out 1).trans rfl,(blk_cell BK457.out 2).trans rfl,(blk_cell BK458.out 0).trans rfl,(blk_cell BK458.out 1).trans rfl,(blk_cell BK458.out 2).trans rfl⟩ (fun hHeld => ?_);clear hK K;refine norm_ (a':=?_) ?_ ?_
     rotate_left
     ·show Act.put _ (some 31) _ = _
      simp only [Act.put,sA_,s0_,s1_,i64_w,i32_w]
      rfl
     refine pure_ (i:=8) (N:=some 10) (v:=?_) (a':=?_) #[true,true,true,true,true,true,true,true,true,false] rfl rfl (any_of HT_.out (by kernel_rfl)) (fun _ _ _ h => h) (Or.inl ⟨by rfl, ?_⟩) ?_ ?_
     rotate_left
     ·intro w'
      go_simp
      with_reducible rfl
     rotate_left
     ·simp only [Act.put,sA_,s0_,s1_,i64_w,i32_w]
      rfl
     refine pure_ (i:=9) (N:=some 11) (v:=?_) (a':=?_) #[true,true,true,true,true,true,true,true,true,true] rfl rfl (any_of HT_.out (by kernel_rfl)) (fun _ _ _ h => h) (Or.inl ⟨by rfl, ?_⟩) ?_ ?_
     rotate_left
     ·intro w'
      go_simp
      with_reducible rfl
     rotate_left
     ·simp only [Act.put,sA_,s0_,s1_,i64_w,i32_w]
      rfl
     refine done_ (done_of HT_.out (by kernel_rfl)) ?_
     try go_wp2
     go_ret2
     exact ⟨by rfl,by exact HB.out⟩
    ·rw [if_neg c22] at H;have c22b0 : decide (t461 < t462) = false:=decide_eq_false c22;clear c22
     by_cases c26 : t462 < t461
     ·rw [if_pos c26] at H;have c26b0 : decide (t462 < t461) = true:=decide_eq_true c26;clear c26;simp only [Option.some.injEq,Prod.mk.injEq] at H;obtain ⟨rfl,rfl⟩ := H
      try go_wp2
      have n0_:=am_ (blk_drew BK457.out);have n1_:=am_ (blk_drew BK458.out);have n2_:=am_ (below_drew1 HB.out);clear BK457;clear BK458;clear HB;have BK457:=n0_;have BK458:=n1_;have HB:=n2_;clear n0_ n1_ n2_
      refine start_ (n:=10) (S:=fun w' => w'.cell? ⟨gb457,0,none⟩ = some (.int .i64 a0_0) ∧ w'.cell? ⟨gb457,1,none⟩ = some (.slice A0_1 l0_1.length c0_1) ∧ w'.cell? ⟨gb457,2,none⟩ = some (.int .i64 a0_2) ∧ w'.cell? ⟨gb458,0,none⟩ = some (.int .i64 a1_0) ∧ w'.cell? ⟨gb458,1,none⟩ = some (.slice A1_1 l1_1.length c1_1) ∧ w'.cell? ⟨gb458,2,none⟩ = some (.int .i64 a1_2)) (ds := []) #[false,false,false,false,false,false,false,false,false,false] (by kernel_rfl) rfl rfl ⟨(blk_cell BK457.out 0).trans rfl,(blk_cell BK457.out 1).trans rfl,(blk_cell BK457.out 2).trans rfl,(blk_cell BK458.out 0).trans rfl,(blk_cell BK458.out 1).trans rfl,(blk_cell BK458.out 2).trans rfl⟩ (fun hHeld => ?_);refine with_tabW impl_CheaperCharge.tab3 impl_CheaperCharge.bits3 (fun HT_ HW_ => ?_)
      generalize wc.drew = w27 at BK457 BK458 HB hHeld ⊢;refine pure_ (i:=1) (N:=some 25) (v:=?_) (a':=?_) #[false,true,false,false,false,false,false,false,false,false] rfl rfl (any_of HT_.out (by kernel_rfl)) (fun _ _ _ h => h) (Or.inl ⟨by rfl, ?_⟩) ?_ ?_
      rotate_left
      ·intro w'
       go_simp
       with_reducible rfl
      rotate_left
      ·simp only [Act.put,sA_,s0_,s1_,i64_w,i32_w]
       rfl
      refine pure_ (i:=2) (N:=some 26) (v:=?_) (a':=?_) #[false,true,true,false,false,false,false,false,false,false] rfl rfl (any_of HT_.out (by kernel_rfl)) (fun _ _ _ h => h) (Or.inl ⟨by rfl, ?_⟩) ?_ ?_
      rotate_left
      ·intro w'
       go_simp
       with_reducible rfl
      rotate_left
      ·simp only [Act.put,sA_,s0_,s1_,i64_w,i32_w]
       rfl
      refine pure_ (i:=5) (N:=some 29) (v:=?_) (a':=?_) #[false,true,true,false,false,true,false,false,false,false] rfl rfl (any_of HT_.out (by kernel_rfl)) (fun _ _ _ h => h) (Or.inl ⟨by rfl, ?_⟩) ?_ ?_
      rotate_left
      ·intro w'
       go_simp
       with_reducible rfl
      rotate_left
      ·simp only [Act.put,sA_,s0_,s1_,i64_w,i32_w]
       rfl
      refine pure_ (i:=6) (N:=some 30) (v:=?_) (a':=?_) #[false,true,true,false,false,true,true,false,false,false] rfl rfl (any_of HT_.out (by kernel_rfl)) (fun _ _ _ h => h) (Or.inl ⟨by rfl, ?_⟩) ?_ ?_
      rotate_left
      ·intro w'
       go_simp
       with_reducible rfl
      rotate_left
      ·simp only [Act.put,sA_,s0_,s1_,i64_w,i32_w]
       rfl
      refine take_ (i:=0) (N:=some 24) (v:=?_) (a':=?_) #[true,true,true,false,false,true,true,false,false,false] rfl rfl (take_ofW HT_.out HW_.out (by kernel_rfl)) (fun _ _ _ h => h) (Or.inl ⟨by rfl, ?_⟩) hHeld ?_ ?_
      rotate_left
      ·rintro w' ⟨s0,s1,s2,s3,s4,s5⟩
       go_simp
       with_reducible rfl
      rotate_left
      ·simp only [Act.put,sA_,s0_,s1_,i64_w,i32_w]
       rfl
      refine take_ (i:=4) (N:=some 28) (v:=?_) (a':=?_) #[true,true,true,false,true,true,true,false,false,false] rfl rfl (take_ofW HT_.out HW_.out (by kernel_rfl)) (fun _ _ _ h => h) (Or.inl ⟨by rfl, ?_⟩) hHeld ?_ ?_
      rotate_left
      ·rintro w' ⟨s0,s1,s2,s3,s4,s5⟩
       go_simp
       with_reducible rfl
      rotate_left
      ·simp only [Act.put,sA_,s0_,s1_,i64_w,i32_w]
       rfl
      refine one_ (i:=3) (N:=some 27) #[true,true,true,true,true,true,true,false,false,false] rfl rfl (one_of HT_.out (by kernel_rfl)) (by decide) (fun K hK => ?_);refine goes_ Tryz.func37 (by kernel_rfl) rfl #[.agg #[.int .i64 a0_0, .slice A0_1 l0_1.length c0_1, .int .i64 a0_2], .int .i64 a2, .int .i64 a3] (by rfl) rfl rfl (by (try simp only [List.map_toArray,List.map_cons,List.map_nil]);rfl) ?_
      with_reducible refine (impl_stayCharge.calls kj4 a0_0 _ _ l0_1 a0_2 a2 a3 t461 _ ?side1 ?side2 A20.out).mono ?_
      (case side1 => repeat (exact (Kd.C_below HR0_1.out HB.out)))
      (case side2 => exact HC0_1.out)
      rintro e w28 ⟨rfl,hb⟩;refine ⟨_,rfl, ?_⟩;have n0_:=am_ (blk_below (by exact BK457.out) hb);have n1_:=am_ (blk_below (by exact BK458.out) hb);have n2_:=am_ (below_step (by exact HB.out) hb);clear BK457;clear BK458;clear HB;have BK457:=n0_;have BK458:=n1_;have HB:=n2_;clear n0_ n1_ n2_;(try clear hb)
      (skip)
      (skip)
      (skip)
      refine hK.out _ _ ⟨(blk_cell BK457.out 0).trans rfl,(blk_cell BK457.out 1).trans rfl,(blk_cell BK457.out 2).trans rfl,(blk_cell BK458.out 0).trans rfl,(blk_cell BK458.out 1).trans rfl,(blk_cell BK458.out 2).trans rfl⟩ (fun hHeld => ?_);clear hK K;refine norm_ (a':=?_) ?_ ?_
      rotate_left
      ·show Act.put _ (some 27) _ = _
       simp only [Act.put,sA_,s0_,s1_,i64_w,i32_w]
       rfl
      refine one_ (i:=7) (N:=some 31) #[true,true,true,true,true,true,true,true,false,false] rfl rfl (one_of HT_.out (by kernel_rfl)) (by decide) (fun K hK => ?_);refine goes_ Tryz.func37 (by kernel_rfl) rfl #[.agg #[.int .i64 a1_0, .slice A1_1 l1_1.length c1_1, .int .i64 a1_2], .int .i64 a2, .int .i64 a3] (by rfl) rfl rfl (by (try simp only [List.map_toArray,List.map_cons,List.map_nil]);rfl) ?_
      with_reducible refine (impl_stayCharge.calls kj4 a1_0 _ _ l1_1 a1_2 a2 a3 t462 _ ?side1 ?side2 A21.out).mono ?_
      (case side1 => repeat (exact (Kd.C_below HR1_1.out HB.out)))
      (case side2 => exact HC1_1.out)
      rintro e w29 ⟨rfl,hb⟩;refine ⟨_,rfl, ?_⟩;have n0_:=am_ (blk_below (by exact BK457.out) hb);have n1_:=am_ (blk_below (by exact BK458.out) hb);have n2_:=am_ (below_step (by exact HB.out) hb);clear BK457;clear BK458;clear HB;have BK457:=n0_;have BK458:=n1_;have HB:=n2_;clear n0_ n1_ n2_;(try clear hb)
      (skip)
      (skip)
      (skip)
      refine hK.out _ _ ⟨(blk_cell BK457.out 0).trans rfl,(blk_cell BK457.out 1).trans rfl,(blk_cell BK457.out 2).trans rfl,(blk_cell BK458.out 0).trans rfl,(blk_cell BK458.out 1).trans rfl,(blk_cell BK458.out 2).trans rfl⟩ (fun hHeld => ?_);clear hK K;refine norm_ (a':=?_) ?_ ?_
      rotate_left
      ·show Act.put _ (some 31) _ = _
       simp only [Act.put,sA_,s0_,s1_,i64_w,i32_w]
       rfl
      refine pure_ (i:=8) (N:=some 10) (v:=?_) (a':=?_) #[true,true,true,true,true,true,true,true,true,false] rfl rfl (any_of HT_.out (by kernel_rfl)) (fun _ _ _ h => h) (Or.inl ⟨by rfl, ?_⟩) ?_ ?_
      rotate_left
      ·intro w'
       go_simp
       with_reducible rfl
      rotate_left
      ·simp only [Act.put,sA_,s0_,s1_,i64_w,i32_w]
       rfl
      refine pure_ (i:=9) (N:=some 11) (v:=?_) (a':=?_) #[true,true,true,true,true,true,true,true,true,true] rfl rfl (any_of HT_.out (by kernel_rfl)) (fun _ _ _ h => h) (Or.inl ⟨by rfl, ?_⟩) ?_ ?_
      rotate_left
      ·intro w'
       go_simp
       with_reducible rfl
      rotate_left
      ·simp only [Act.put,sA_,s0_,s1_,i64_w,i32_w]
       rfl
      refine done_ (done_of HT_.out (by kernel_rfl)) ?_
      try go_wp2
      go_ret2
      exact ⟨by rfl,by exact HB.out⟩
     ·rw [if_neg c26] at H;have c26b0 : decide (t462 < t461) = false:=decide_eq_false c26;clear c26;simp only [Option.some.injEq,Prod.mk.injEq] at H;obtain ⟨rfl,rfl⟩ := H
      try go_wp2
      have n0_:=am_ (blk_drew BK457.out);have n1_:=am_ (blk_drew BK458.out);have n2_:=am_ (below_drew1 HB.out);clear BK457;clear BK458;clear HB;have BK457:=n0_;have BK458:=n1_;have HB:=n2_;clear n0_ n1_ n2_
      refine start_ (n:=10) (S:=fun w' => w'.cell? ⟨gb457,0,none⟩ = some (.int .i64 a0_0) ∧ w'.cell? ⟨gb457,1,none⟩ = some (.slice A0_1 l0_1.length c0_1) ∧ w'.cell? ⟨gb457,2,none⟩ = some (.int .i64 a0_2) ∧ w'.cell? ⟨gb458,0,none⟩ = some (.int .i64 a1_0) ∧ w'.cell? ⟨gb458,1,none⟩ = some (.slice A1_1 l1_1.length c1_1) ∧ w'.cell? ⟨gb458,2,none⟩ = some (.int .i64 a1_2)) (ds := []) #[false,false,false,false,false,false,false,false,false,false] (by kernel_rfl) rfl rfl ⟨(blk_cell BK457.out 0).trans rfl,(blk_cell BK457.out 1).trans rfl,(blk_cell BK457.out 2).trans rfl,(blk_cell BK458.out 0).trans rfl,(blk_cell BK458.out 1).trans rfl,(blk_cell BK458.out 2).trans rfl⟩ (fun hHeld => ?_);refine with_tabW impl_CheaperCharge.tab3 impl_CheaperCharge.bits3 (fun HT_ HW_ => ?_)
      generalize wc.drew = w30 at BK457 BK458 HB hHeld ⊢;refine pure_ (i:=1) (N:=some 25) (v:=?_) (a':=?_) #[false,true,false,false,false,false,false,false,false,false] rfl rfl (any_of HT_.out (by kernel_rfl)) (fun _ _ _ h => h) (Or.inl ⟨by rfl, ?_⟩) ?_ ?_
      rotate_left
      ·intro w'
       go_simp
       with_reducible rfl
      rotate_left
      ·simp only [Act.put,sA_,s0_,s1_,i64_w,i32_w]
       rfl
      refine pure_ (i:=2) (N:=some 26) (v:=?_) (a':=?_) #[false,true,true,false,false,false,false,false,false,false] rfl rfl (any_of HT_.out (by kernel_rfl)) (fun _ _ _ h => h) (Or.inl ⟨by rfl, ?_⟩) ?_ ?_
      rotate_left
      ·intro w'
       go_simp
       with_reducible rfl
      rotate_left
      ·simp only [Act.put,sA_,s0_,s1_,i64_w,i32_w]
       rfl
      refine pure_ (i:=5) (N:=some 29) (v:=?_) (a':=?_) #[false,true,true,false,false,true,false,false,false,false] rfl rfl (any_of HT_.out (by kernel_rfl)) (fun _ _ _ h => h) (Or.inl ⟨by rfl, ?_⟩) ?_ ?_
      rotate_left
      ·intro w'
       go_simp
       with_reducible rfl
      rotate_left
      ·simp only [Act.put,sA_,s0_,s1_,i64_w,i32_w]
       rfl
      refine pure_ (i:=6) (N:=some 30) (v:=?_) (a':=?_) #[false,true,true,false,false,true,true,false,false,false] rfl rfl (any_of HT_.out (by kernel_rfl)) (fun _ _ _ h => h) (Or.inl ⟨by rfl, ?_⟩) ?_ ?_
      rotate_left
      ·intro w'
       go_simp
       with_reducible rfl
      rotate_left
      ·simp only [Act.put,sA_,s0_,s1_,i64_w,i32_w]
       rfl
      refine take_ (i:=0) (N:=some 24) (v:=?_) (a':=?_) #[true,true,true,false,false,true,true,false,false,false] rfl rfl (take_ofW HT_.out HW_.out (by kernel_rfl)) (fun _ _ _ h => h) (Or.inl ⟨by rfl, ?_⟩) hHeld ?_ ?_
      rotate_left
      ·rintro w' ⟨s0,s1,s2,s3,s4,s5⟩
       go_simp
       with_reducible rfl
      rotate_left
      ·simp only [Act.put,sA_,s0_,s1_,i64_w,i32_w]
       rfl
      refine take_ (i:=4) (N:=some 28) (v:=?_) (a':=?_) #[true,true,true,false,true,true,true,false,false,false] rfl rfl (take_ofW HT_.out HW_.out (by kernel_rfl)) (fun _ _ _ h => h) (Or.inl ⟨by rfl, ?_⟩) hHeld ?_ ?_
      rotate_left
      ·rintro w' ⟨s0,s1,s2,s3,s4,s5⟩
       go_simp
       with_reducible rfl
      rotate_left
      ·simp only [Act.put,sA_,s0_,s1_,i64_w,i32_w]
       rfl
      refine one_ (i:=3) (N:=some 27) #[true,true,true,true,true,true,true,false,false,false] rfl rfl (one_of HT_.out (by kernel_rfl)) (by decide) (fun K hK => ?_);refine goes_ Tryz.func37 (by kernel_rfl) rfl #[.agg #[.int .i64 a0_0, .slice A0_1 l0_1.length c0_1, .int .i64 a0_2], .int .i64 a2, .int .i64 a3] (by rfl) rfl rfl (by (try simp only [List.map_toArray,List.map_cons,List.map_nil]);rfl) ?_
      with_reducible refine (impl_stayCharge.calls kj4 a0_0 _ _ l0_1 a0_2 a2 a3 t461 _ ?side1 ?side2 A20.out).mono ?_
      (case side1 => repeat (exact (Kd.C_below HR0_1.out HB.out)))
      (case side2 => exact HC0_1.out)
      rintro e w31 ⟨rfl,hb⟩;refine ⟨_,rfl, ?_⟩;have n0_:=am_ (blk_below (by exact BK457.out) hb);have n1_:=am_ (blk_below (by exact BK458.out) hb);have n2_:=am_ (below_step (by exact HB.out) hb);clear BK457;clear BK458;clear HB;have BK457:=n0_;have BK458:=n1_;have HB:=n2_;clear n0_ n1_ n2_;(try clear hb)
      (skip)
      (skip)
      (skip)
      refine hK.out _ _ ⟨(blk_cell BK457.out 0).trans rfl,(blk_cell BK457.out 1).trans rfl,(blk_cell BK457.out 2).trans rfl,(blk_cell BK458.out 0).trans rfl,(blk_cell BK458.out 1).trans rfl,(blk_cell BK458.out 2).trans rfl⟩ (fun hHeld => ?_);clear hK K;refine norm_ (a':=?_) ?_ ?_
      rotate_left
      ·show Act.put _ (some 27) _ = _
       simp only [Act.put,sA_,s0_,s1_,i64_w,i32_w]
       rfl
      refine one_ (i:=7) (N:=some 31) #[true,true,true,true,true,true,true,true,false,false] rfl rfl (one_of HT_.out (by kernel_rfl)) (by decide) (fun K hK => ?_);refine goes_ Tryz.func37 (by kernel_rfl) rfl #[.agg #[.int .i64 a1_0, .slice A1_1 l1_1.length c1_1, .int .i64 a1_2], .int .i64 a2, .int .i64 a3] (by rfl) rfl rfl (by (try simp only [List.map_toArray,List.map_cons,List.map_nil]);rfl) ?_
      with_reducible refine (impl_stayCharge.calls kj4 a1_0 _ _ l1_1 a1_2 a2 a3 t462 _ ?side1 ?side2 A21.out).mono ?_
      (case side1 => repeat (exact (Kd.C_below HR1_1.out HB.out)))
      (case side2 => exact HC1_1.out)
      rintro e w32 ⟨rfl,hb⟩;refine ⟨_,rfl, ?_⟩;have n0_:=am_ (blk_below (by exact BK457.out) hb);have n1_:=am_ (blk_below (by exact BK458.out) hb);have n2_:=am_ (below_step (by exact HB.out) hb);clear BK457;clear BK458;clear HB;have BK457:=n0_;have BK458:=n1_;have HB:=n2_;clear n0_ n1_ n2_;(try clear hb)
      (skip)
      (skip)
      (skip)
      refine hK.out _ _ ⟨(blk_cell BK457.out 0).trans rfl,(blk_cell BK457.out 1).trans rfl,(blk_cell BK457.out 2).trans rfl,(blk_cell BK458.out 0).trans rfl,(blk_cell BK458.out 1).trans rfl,(blk_cell BK458.out 2).trans rfl⟩ (fun hHeld => ?_);clear hK K;refine norm_ (a':=?_) ?_ ?_
      rotate_left
      ·show Act.put _ (some 31) _ = _
       simp only [Act.put,sA_,s0_,s1_,i64_w,i32_w]
       rfl
      refine pure_ (i:=8) (N:=some 10) (v:=?_) (a':=?_) #[true,true,true,true,true,true,true,true,true,false] rfl rfl (any_of HT_.out (by kernel_rfl)) (fun _ _ _ h => h) (Or.inl ⟨by rfl, ?_⟩) ?_ ?_
      rotate_left
      ·intro w'
       go_simp
       with_reducible rfl
      rotate_left
      ·simp only [Act.put,sA_,s0_,s1_,i64_w,i32_w]
       rfl
      refine pure_ (i:=9) (N:=some 11) (v:=?_) (a':=?_) #[true,true,true,true,true,true,true,true,true,true] rfl rfl (any_of HT_.out (by kernel_rfl)) (fun _ _ _ h => h) (Or.inl ⟨by rfl, ?_⟩) ?_ ?_
      rotate_left
      ·intro w'
       go_simp
       with_reducible rfl
      rotate_left
      ·simp only [Act.put,sA_,s0_,s1_,i64_w,i32_w]
       rfl
      refine done_ (done_of HT_.out (by kernel_rfl)) ?_
      try go_wp2
      go_ret2
      exact ⟨by rfl,by exact HB.out⟩

/-! ### spec_l22Asked: function 38 -/
def spec_l22Asked.f (k : Nat) (a0_0 : Int) (l0_1 : List (S45)) (a0_2 : Int) (a1 : Int) (a2 : Int) : Option (Bool):=(spec_l22Good.f k a0_0 l0_1 a0_2).bind fun t464 => (if t464 = true then ((spec_l1In.f a1 1 2).bind fun t465 => (if t465 = true then ((spec_l1In.f a2 0 400).bind fun t466 => (some t466)) else (some false))) else (some false))
theorem spec_l22Asked.mono : ∀ a0 a1 a2 a3 a4 k,LeO (spec_l22Asked.f k a0 a1 a2 a3 a4) (spec_l22Asked.f (k + 1) a0 a1 a2 a3 a4):=by
 intro a0 a1 a2 a3 a4 k
 unfold spec_l22Asked.f
 repeat' first
   | (with_reducible exact spec_l22Good.mono _ _ _ _)
   | (with_reducible exact LeO.refl _)
   | (with_reducible exact LeO.none _)
   | (with_reducible refine LeO.ite ?_ ?_)
   | (with_reducible refine LeO.bind ?_ (fun _ => ?_))
   | exact spec_l22Good.mono _ _ _ _
   | exact LeO.none _
   | refine LeO.ite ?_ ?_
   | refine LeO.bind ?_ (fun _ => ?_)
set_option maxHeartbeats 8000000 in
set_option maxRecDepth 100000 in
theorem spec_l22Asked.calls (k : Nat) (a0_0 : Int) (A0_1 : Option Addr) (c0_1 : Nat) (l0_1 : List (S45)) (a0_2 : Int) (a1 : Int) (a2 : Int) (r : Bool) (w : World) (hr0_1 : Kd.C k45 w A0_1 l0_1.length l0_1) (hc0_1 : l0_1.length ≤ c0_1) (h : spec_l22Asked.f k a0_0 l0_1 a0_2 a1 a2 = some r) :
  Calls Tryz.prog 38 #[.agg #[.int .i64 a0_0, .slice A0_1 l0_1.length c0_1, .int .i64 a0_2], .int .i64 a1, .int .i64 a2] w fun e w' => e = .returned (.bool r) ∧ Below w.heap.size w w':=by
 have hu26:=Tryz.underlying26;have HR0_1:=am_ hr0_1;have HC0_1:=am_ hc0_1;clear hr0_1 hc0_1;have HB:=am_ (Below.refl w.heap.size w);have H : ((spec_l22Good.f k a0_0 l0_1 a0_2).bind fun t464 => (if t464 = true then ((spec_l1In.f a1 1 2).bind fun t465 => (if t465 = true then ((spec_l1In.f a2 0 400).bind fun t466 => (some t466)) else (some false))) else (some false))) = some r:=h;clear h;replace H:=Option.bind_eq_some_iff.mp H;obtain ⟨t464,A40,H⟩ := H;replace H : (if t464 = true then ((spec_l1In.f a1 1 2).bind fun t465 => (if t465 = true then ((spec_l1In.f a2 0 400).bind fun t466 => (some t466)) else (some false))) else (some false)) = some r:=H;have A4:=am_ A40;clear A40
 by_cases c5 : t464 = true
 ·subst c5
  have H1 : ((spec_l1In.f a1 1 2).bind fun t465 => (if t465 = true then ((spec_l1In.f a2 0 400).bind fun t466 => (some t466)) else (some false))) = some r:=by rw [if_pos rfl] at H;exact H
  clear H;have H:=H1;clear H1;replace H:=Option.bind_eq_some_iff.mp H;obtain ⟨t465,A60,H⟩ := H;replace H : (if t465 = true then ((spec_l1In.f a2 0 400).bind fun t466 => (some t466)) else (some false)) = some r:=H;have A6:=am_ A60;clear A60
  by_cases c7 : t465 = true
  ·subst c7
   have H1 : ((spec_l1In.f a2 0 400).bind fun t466 => (some t466)) = some r:=by rw [if_pos rfl] at H;exact H
   clear H;have H:=H1;clear H1;replace H:=Option.bind_eq_some_iff.mp H;obtain ⟨t466,A80,H⟩ := H;replace H : (some t466) = some r:=H;have A8:=am_ A80;clear A80;obtain rfl:=Option.some.inj H
   go_enter Tryz.func38,Tryz.ntmps38
   go_wp2_with (first | ((with_reducible refine gate_dst (N:=3) rfl ?_);refine box_event ?hg (N:=3) ?hd (cs:=#[.int .i64 a0_0, .slice A0_1 l0_1.length c0_1, .int .i64 a0_2]) (t:=26) ?hr ?_;(case hd => rfl);(case hg => rfl);(case hr => (go_simp;done));intro gb463 hg w9 hbox hb;have n0_:=am_ (below_step (by exact HB.out) hb);have n1_:=am_ hbox;have n2_:=am_ (ge_ hg (by exact HB.out));have n3_:=am_ (ge_ hg (by exact HB.out));clear HB;have HB:=n0_;have BK463:=n1_;have GW463:=n2_;have GE463:=n3_;clear n0_ n1_ n2_ n3_;clear hb hbox hg;have hcz10_0:=c3_0 BK463.out;have hcz10_1:=c3_1 BK463.out;have hcz10_2:=c3_2 BK463.out;have hfz10_0:=blk_frozen BK463.out 0;have hfz10_1:=blk_frozen BK463.out 1;have hfz10_2:=blk_frozen BK463.out 2) | ((with_reducible refine gate_callee (f:=21) rfl ?_);refine goesL_ (some 8) rfl rfl Tryz.func21 (by kernel_rfl) rfl #[.agg #[.int .i64 a0_0, .slice A0_1 l0_1.length c0_1, .int .i64 a0_2]] rfl (by (try simp only [List.map_toArray,List.map_cons,List.map_nil]);rfl) ?_;(with_reducible refine (spec_l22Good.calls k a0_0 _ _ l0_1 a0_2 true _ ?side1 ?side2 A4.out).mono ?_);(case side1 => repeat (exact (Kd.C_below HR0_1.out HB.out)));(case side2 => exact HC0_1.out);rintro e w11 ⟨rfl,hb⟩;refine ⟨_,rfl, ?_⟩;have n0_:=am_ (blk_below (by exact BK463.out) hb);have n1_:=am_ (below_step (by exact HB.out) hb);clear BK463;clear HB;have BK463:=n0_;have HB:=n1_;clear n0_ n1_;(try clear hb)) | (go_at_call 43;(with_reducible refine (spec_l1In.calls a1 1 2 true _ A6.out).mono ?_);rintro e w' ⟨rfl,⟨nd,rfl⟩⟩) | (go_at_call 43;(with_reducible refine (spec_l1In.calls a2 0 400 t466 _ A8.out).mono ?_);rintro e w' ⟨rfl,⟨nd,rfl⟩⟩))
   go_ret
   exact ⟨by rfl,by repeat ((with_reducible first | exact HB.out | apply pw_below_drewN))⟩
  ·replace c7:=Bool.eq_false_iff.mpr c7;subst c7
   have H1 : (some false) = some r:=by rw [if_neg (show ¬ (false = true) by decide)] at H;exact H
   clear H;have H:=H1;clear H1;obtain rfl:=Option.some.inj H
   go_enter Tryz.func38,Tryz.ntmps38
   go_wp2_with (first | ((with_reducible refine gate_dst (N:=3) rfl ?_);refine box_event ?hg (N:=3) ?hd (cs:=#[.int .i64 a0_0, .slice A0_1 l0_1.length c0_1, .int .i64 a0_2]) (t:=26) ?hr ?_;(case hd => rfl);(case hg => rfl);(case hr => (go_simp;done));intro gb463 hg w12 hbox hb;have n0_:=am_ (below_step (by exact HB.out) hb);have n1_:=am_ hbox;have n2_:=am_ (ge_ hg (by exact HB.out));have n3_:=am_ (ge_ hg (by exact HB.out));clear HB;have HB:=n0_;have BK463:=n1_;have GW463:=n2_;have GE463:=n3_;clear n0_ n1_ n2_ n3_;clear hb hbox hg;have hcz13_0:=c3_0 BK463.out;have hcz13_1:=c3_1 BK463.out;have hcz13_2:=c3_2 BK463.out;have hfz13_0:=blk_frozen BK463.out 0;have hfz13_1:=blk_frozen BK463.out 1;have hfz13_2:=blk_frozen BK463.out 2) | ((with_reducible refine gate_callee (f:=21) rfl ?_);refine goesL_ (some 8) rfl rfl Tryz.func21 (by kernel_rfl) rfl #[.agg #[.int .i64 a0_0, .slice A0_1 l0_1.length c0_1, .int .i64 a0_2]] rfl (by (try simp only [List.map_toArray,List.map_cons,List.map_nil]);rfl) ?_;(with_reducible refine (spec_l22Good.calls k a0_0 _ _ l0_1 a0_2 true _ ?side1 ?side2 A4.out).mono ?_);(case side1 => repeat (exact (Kd.C_below HR0_1.out HB.out)));(case side2 => exact HC0_1.out);rintro e w14 ⟨rfl,hb⟩;refine ⟨_,rfl, ?_⟩;have n0_:=am_ (blk_below (by exact BK463.out) hb);have n1_:=am_ (below_step (by exact HB.out) hb);clear BK463;clear HB;have BK463:=n0_;have HB:=n1_;clear n0_ n1_;(try clear hb)) | (go_at_call 43;(with_reducible refine (spec_l1In.calls a1 1 2 false _ A6.out).mono ?_);rintro e w' ⟨rfl,⟨nd,rfl⟩⟩))
   go_ret
   exact ⟨by rfl,by repeat ((with_reducible first | exact HB.out | apply pw_below_drewN))⟩
 ·replace c5:=Bool.eq_false_iff.mpr c5;subst c5
  have H1 : (some false) = some r:=by rw [if_neg (show ¬ (false = true) by decide)] at H;exact H
  clear H;have H:=H1;clear H1;obtain rfl:=Option.some.inj H
  go_enter Tryz.func38,Tryz.ntmps38
  go_wp2_with (first | ((with_reducible refine gate_dst (N:=3) rfl ?_);refine box_event ?hg (N:=3) ?hd (cs:=#[.int .i64 a0_0, .slice A0_1 l0_1.length c0_1, .int .i64 a0_2]) (t:=26) ?hr ?_;(case hd => rfl);(case hg => rfl);(case hr => (go_simp;done));intro gb463 hg w15 hbox hb;have n0_:=am_ (below_step (by exact HB.out) hb);have n1_:=am_ hbox;have n2_:=am_ (ge_ hg (by exact HB.out));have n3_:=am_ (ge_ hg (by exact HB.out));clear HB;have HB:=n0_;have BK463:=n1_;have GW463:=n2_;have GE463:=n3_;clear n0_ n1_ n2_ n3_;clear hb hbox hg;have hcz16_0:=c3_0 BK463.out;have hcz16_1:=c3_1 BK463.out;have hcz16_2:=c3_2 BK463.out;have hfz16_0:=blk_frozen BK463.out 0;have hfz16_1:=blk_frozen BK463.out 1;have hfz16_2:=blk_frozen BK463.out 2) | ((with_reducible refine gate_callee (f:=21) rfl ?_);refine goesL_ (some 8) rfl rfl Tryz.func21 (by kernel_rfl) rfl #[.agg #[.int .i64 a0_0, .slice A0_1 l0_1.length c0_1, .int .i64 a0_2]] rfl (by (try simp only [List.map_toArray,List.map_cons,List.map_nil]);rfl) ?_;(with_reducible refine (spec_l22Good.calls k a0_0 _ _ l0_1 a0_2 false _ ?side1 ?side2 A4.out).mono ?_);(case side1 => repeat (exact (Kd.C_below HR0_1.out HB.out)));(case side2 => exact HC0_1.out);rintro e w17 ⟨rfl,hb⟩;refine ⟨_,rfl, ?_⟩;have n0_:=am_ (blk_below (by exact BK463.out) hb);have n1_:=am_ (below_step (by exact HB.out) hb);clear BK463;clear HB;have BK463:=n0_;have HB:=n1_;clear n0_ n1_;(try clear hb)))
  go_ret
  exact ⟨by rfl,by exact HB.out⟩

/-! ### spec_l22Step: function 72 -/
def spec_l22Step.l0 : Nat → Int → Int → Int → Int → List (S45) → Int → Option (Int)
 | 0,_,_,_,_,_,_ => none
 | k + 1,x1,x5,x6,x468000,x468001,x468002 => if (wrap64 (x6 + 1)) < (x468001.length : Int) then (if 0 ≤ x6 then (if x6 < (x468001.length : Int) then (if x1 ≤ (wrap64 (x5 + ((rd_T45 x468001 x6).f0))) then (some x6) else (spec_l22Step.l0 k x1 (wrap64 (x5 + ((rd_T45 x468001 x6).f0))) (wrap64 (x6 + 1)) x468000 x468001 x468002)) else (none)) else (none)) else (some (wrap64 ((x468001.length : Int) - 1)))
def spec_l22Step.f (k : Nat) (a0_0 : Int) (l0_1 : List (S45)) (a0_2 : Int) (a1 : Int) : Option (Int):=if a1 ≤ a0_0 then (some (-1)) else (spec_l22Step.l0 k a1 a0_0 0 a0_0 l0_1 a0_2)
theorem spec_l22Step.mono_l : ∀ k,(∀ y0 y1 y2 y3 y4 y5,LeO (spec_l22Step.l0 k y0 y1 y2 y3 y4 y5) (spec_l22Step.l0 (k + 1) y0 y1 y2 y3 y4 y5))
 | 0 => fun _ _ _ _ _ _ r h => by simp [spec_l22Step.l0] at h
 | k + 1 => by
  have ih0:=spec_l22Step.mono_l k
  ·intro y0 y1 y2 y3 y4 y5
   unfold spec_l22Step.l0
   repeat' first
   | (with_reducible exact ih0 _ _ _ _ _ _)
   | (with_reducible exact LeO.refl _)
   | (with_reducible exact LeO.none _)
   | (with_reducible refine LeO.ite ?_ ?_)
   | (with_reducible refine LeO.bind ?_ (fun _ => ?_))
   | exact ih0 _ _ _ _ _ _
   | exact LeO.none _
   | refine LeO.ite ?_ ?_
   | refine LeO.bind ?_ (fun _ => ?_)
theorem spec_l22Step.mono : ∀ a0 a1 a2 a3 k,LeO (spec_l22Step.f k a0 a1 a2 a3) (spec_l22Step.f (k + 1) a0 a1 a2 a3):=by
 intro a0 a1 a2 a3 k;have ih0:=spec_l22Step.mono_l k
 unfold spec_l22Step.f
 repeat' first
   | (with_reducible exact ih0 _ _ _ _ _ _)
   | (with_reducible exact LeO.refl _)
   | (with_reducible exact LeO.none _)
   | (with_reducible refine LeO.ite ?_ ?_)
   | (with_reducible refine LeO.bind ?_ (fun _ => ?_))
   | exact ih0 _ _ _ _ _ _
   | exact LeO.none _
   | refine LeO.ite ?_ ?_
   | refine LeO.bind ?_ (fun _ => ?_)
set_option maxHeartbeats 8000000 in
set_option maxRecDepth 100000 in
theorem spec_l22Step.calls (k : Nat) (a0_0 : Int) (A0_1 : Option Addr) (c0_1 : Nat) (l0_1 : List (S45)) (a0_2 : Int) (a1 : Int) (r : Int) (w : World) (hr0_1 : Kd.C k45 w A0_1 l0_1.length l0_1) (hc0_1 : l0_1.length ≤ c0_1) (h : spec_l22Step.f k a0_0 l0_1 a0_2 a1 = some r) :
  Calls Tryz.prog 72 #[.agg #[.int .i64 a0_0, .slice A0_1 l0_1.length c0_1, .int .i64 a0_2], .int .i64 a1] w fun e w' => e = .returned (.int .i64 r) ∧ Below w.heap.size w w':=by
 have hu26:=Tryz.underlying26;have HR0_1:=am_ hr0_1;have HC0_1:=am_ hc0_1;clear hr0_1 hc0_1;have HB:=am_ (Below.refl w.heap.size w);have H : (if a1 ≤ a0_0 then (some (-1)) else (spec_l22Step.l0 k a1 a0_0 0 a0_0 l0_1 a0_2)) = some r:=h;clear h
 by_cases c3 : a1 ≤ a0_0
 ·rw [if_pos c3] at H;have c3b0 : decide (a1 ≤ a0_0) = true:=decide_eq_true c3;clear c3;obtain rfl:=Option.some.inj H
  go_enter Tryz.func72,Tryz.ntmps72
  go_wp2_with (((with_reducible refine gate_dst (N:=2) rfl ?_);refine box_event ?hg (N:=2) ?hd (cs:=#[.int .i64 a0_0, .slice A0_1 l0_1.length c0_1, .int .i64 a0_2]) (t:=26) ?hr ?_;(case hd => rfl);(case hg => rfl);(case hr => (go_simp;done));intro gb467 hg w4 hbox hb;have n0_:=am_ (below_step (by exact HB.out) hb);have n1_:=am_ hbox;have n2_:=am_ (ge_ hg (by exact HB.out));have n3_:=am_ (ge_ hg (by exact HB.out));clear HB;have HB:=n0_;have BK467:=n1_;have GW467:=n2_;have GE467:=n3_;clear n0_ n1_ n2_ n3_;clear hb hbox hg;have hcz5_0:=c3_0 BK467.out;have hcz5_1:=c3_1 BK467.out;have hcz5_2:=c3_2 BK467.out;have hfz5_0:=blk_frozen BK467.out 0;have hfz5_1:=blk_frozen BK467.out 1;have hfz5_2:=blk_frozen BK467.out 2))
  go_ret
  exact ⟨by rfl,by exact HB.out⟩
 ·rw [if_neg c3] at H;have c3b0 : decide (a1 ≤ a0_0) = false:=decide_eq_false c3;clear c3;have H':=am_ H;clear H
  go_enter Tryz.func72,Tryz.ntmps72
  go_wp2_with (((with_reducible refine gate_dst (N:=2) rfl ?_);refine box_event ?hg (N:=2) ?hd (cs:=#[.int .i64 a0_0, .slice A0_1 l0_1.length c0_1, .int .i64 a0_2]) (t:=26) ?hr ?_;(case hd => rfl);(case hg => rfl);(case hr => (go_simp;done));intro gb467 hg w6 hbox hb;have n0_:=am_ (below_step (by exact HB.out) hb);have n1_:=am_ hbox;have n2_:=am_ (ge_ hg (by exact HB.out));have n3_:=am_ (ge_ hg (by exact HB.out));clear HB;have HB:=n0_;have BK467:=n1_;have GW467:=n2_;have GE467:=n3_;clear n0_ n1_ n2_ n3_;clear hb hbox hg;have hcz7_0:=c3_0 BK467.out;have hcz7_1:=c3_1 BK467.out;have hcz7_2:=c3_2 BK467.out;have hfz7_0:=blk_frozen BK467.out 0;have hfz7_1:=blk_frozen BK467.out 1;have hfz7_2:=blk_frozen BK467.out 2))
  (skip)
  go_loopg [5,6] k (fun kq v5 v6 w' => ∃ (x5_1 : Int) (x6_1 : Int),v5 = .int .i64 x5_1 ∧ v6 = .int .i64 x6_1 ∧ Aside0 (spec_l22Step.l0 kq a1 x5_1 x6_1 a0_0 l0_1 a0_2 = some r) ∧ Aside0 (kq ≤ k) ∧ Aside0 (w'.heap[gb467]? = some (.cells #[.int .i64 a0_0,(.slice A0_1 l0_1.length c0_1), .int .i64 a0_2] 26 (0,0))) ∧ Aside0 (Below w.heap.size w w'))
  case atStart => exact ⟨(a0_0),(0),(by rfl),(by rfl),H',⟨Nat.le_refl _⟩,⟨by exact BK467.out⟩,⟨by exact HB.out⟩⟩
  case round =>
   clear H';(try clear p2);(try clear c3);(try clear c3b0);(try clear c7);(try clear hcz5_0);(try clear hcz5_1);(try clear hcz5_2);(try clear hcz7_0);(try clear hcz7_1);(try clear hcz7_2);(try clear hfz5_0);(try clear hfz5_1);(try clear hfz5_2);(try clear hfz7_0);(try clear hfz7_1);(try clear hfz7_2);obtain ⟨x5_1,x6_1,rfl,rfl,HA,HK1,BK467,HB⟩ := hrel
   cases gk with
   | zero => exact absurd HA.out (by simp [spec_l22Step.l0])
   | succ k1 =>
    have H:=HA.out;clear HA;simp only [spec_l22Step.l0] at H
    by_cases c8 : (wrap64 (x6_1 + 1)) < (l0_1.length : Int)
    ·rw [if_pos c8] at H;have c8b0 : decide ((wrap64 (x6_1 + 1)) < (l0_1.length : Int)) = true:=decide_eq_true c8;clear c8
     by_cases c9 : 0 ≤ x6_1
     ·rw [if_pos c9] at H;have c9b0 : decide (0 ≤ x6_1) = true:=decide_eq_true c9;clear c9
      by_cases c10 : x6_1 < (l0_1.length : Int)
      ·rw [if_pos c10] at H;have c10b0 : decide (x6_1 < (l0_1.length : Int)) = true:=decide_eq_true c10;clear c10
       by_cases c11 : a1 ≤ (wrap64 (x5_1 + ((rd_T45 l0_1 x6_1).f0)))
       ·rw [if_pos c11] at H;have c11b0 : decide (a1 ≤ (wrap64 (x5_1 + ((rd_T45 l0_1 x6_1).f0)))) = true:=decide_eq_true c11;clear c11;obtain rfl:=Option.some.inj H;have hcz12_0:=c3_0 BK467.out;have hcz12_1:=c3_1 BK467.out;have hcz12_2:=c3_2 BK467.out;have hfz12_0:=blk_frozen BK467.out 0;have hfz12_1:=blk_frozen BK467.out 1;have hfz12_2:=blk_frozen BK467.out 2;have p468 : 0 ≤ (x6_1 : Int):=of_decide_eq_true (by (with_reducible assumption));have q468 : x6_1 < (l0_1.length : Int):=of_decide_eq_true (by (with_reducible assumption));obtain ⟨ad468,e468,hx468_0,hx468_1⟩ := at_T45 HR0_1.out x6_1 p468 q468;cases e468;replace hx468_0:=(HB.out.cell (World.block_lt_of_cell? w _ hx468_0)).trans hx468_0;replace hx468_1:=(HB.out.cell (World.block_lt_of_cell? w _ hx468_1)).trans hx468_1;replace p468:=eq_true p468;replace q468:=eq_true q468
        go_wp2
        go_ret
        exact ⟨by rfl,by exact HB.out⟩
       ·rw [if_neg c11] at H;have c11b0 : decide (a1 ≤ (wrap64 (x5_1 + ((rd_T45 l0_1 x6_1).f0)))) = false:=decide_eq_false c11;clear c11;have H':=am_ H;clear H;have hcz13_0:=c3_0 BK467.out;have hcz13_1:=c3_1 BK467.out;have hcz13_2:=c3_2 BK467.out;have hfz13_0:=blk_frozen BK467.out 0;have hfz13_1:=blk_frozen BK467.out 1;have hfz13_2:=blk_frozen BK467.out 2;have p468 : 0 ≤ (x6_1 : Int):=of_decide_eq_true (by (with_reducible assumption));have q468 : x6_1 < (l0_1.length : Int):=of_decide_eq_true (by (with_reducible assumption));obtain ⟨ad468,e468,hx468_0,hx468_1⟩ := at_T45 HR0_1.out x6_1 p468 q468;cases e468;replace hx468_0:=(HB.out.cell (World.block_lt_of_cell? w _ hx468_0)).trans hx468_0;replace hx468_1:=(HB.out.cell (World.block_lt_of_cell? w _ hx468_1)).trans hx468_1;replace p468:=eq_true p468;replace q468:=eq_true q468
        go_wp2
        go_roundg k1
        case measure => have:=HK1.out;omega
        case rel => exact ⟨(wrap64 (x5_1 + ((rd_T45 l0_1 x6_1).f0))),(wrap64 (x6_1 + 1)),(by rfl),(by rfl),H',⟨by have:=HK1.out;omega⟩,⟨by exact BK467.out⟩,⟨by exact HB.out⟩⟩
      ·rw [if_neg c10] at H
       exact absurd H (by simp)
     ·rw [if_neg c9] at H
      exact absurd H (by simp)
    ·rw [if_neg c8] at H;have c8b0 : decide ((wrap64 (x6_1 + 1)) < (l0_1.length : Int)) = false:=decide_eq_false c8;clear c8;obtain rfl:=Option.some.inj H;have hcz14_0:=c3_0 BK467.out;have hcz14_1:=c3_1 BK467.out;have hcz14_2:=c3_2 BK467.out;have hfz14_0:=blk_frozen BK467.out 0;have hfz14_1:=blk_frozen BK467.out 1;have hfz14_2:=blk_frozen BK467.out 2
     go_wp2
     go_ret
     exact ⟨by rfl,by exact HB.out⟩

end Go.Proofs.YtciecfaeeogdoaaGreatDoor.PFnTariffs
