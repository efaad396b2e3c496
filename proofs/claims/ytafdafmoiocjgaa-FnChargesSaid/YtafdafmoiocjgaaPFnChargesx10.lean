-- Written by a program of this session, over the kit's print (wip/xprint.py)
import Derived.Test.YtafdafmoiocjgaaPFnChargesx0
import Derived.Test.YtafdafmoiocjgaaPFnChargesx1
import Derived.Test.YtafdafmoiocjgaaPFnChargesx3
import Derived.Test.YtafdafmoiocjgaaPFnChargesx4
import Derived.Test.YtafdafmoiocjgaaPFnChargesx5
import Derived.Test.YtafdafmoiocjgaaPFnChargesx6
import Derived.Test.YtafdafmoiocjgaaPFnChargesx7
import Derived.Test.YtafdafmoiocjgaaPFnChargesx8
import Derived.Test.YtafdafmoiocjgaaPFnChargesx9
namespace Go.Proofs.Ytafdafmoiocjgaa.PFnCharges
open Go.RowKit Go.Proofs.YtafdafmoiocjgaaW.PrintWords Go.Proofs.YtafdafmoiocjgaaW.PrintLast Go.Proofs.YtafdafmoiocjgaaW.PrintMore
attribute [local go_sem] max2_int min2_int max_two min_two max_three min_three max_four min_four   -- for this text's walks alone
set_option linter.unusedVariables false
set_option linter.unusedSimpArgs false

/-! ### laws_FnCharges: function 4 -/
def laws_FnCharges.T13 : Bool × List (List Nat × List Nat):=(true,[([],[]),([0],[0]),([1],[1]),([2],[2]),([3,2,2],[2,3]),([2],[2]),([4,5,2],[2,4,5]),([2,6],[2,6]),([7,4],[7]),([8],[8]),([9,8],[8,9]),([8],[8]),([11,8],[8,11]),([12,8],[8,12]),([13,8],[8,13]),([10,14,8],[8,10,14]),([8,15],[8,15]),([16,8],[16]),([17],[17]),([18,17],[17,18]),([19,17],[17,19]),([17],[17]),([21,17],[17,21]),([20,22,17],[17,20,22]),([17,23],[17,23])])
def laws_FnCharges.B13 : List Nat := [0,1,3,7,15,7,63,127,255,511,1023,511,2559,6655,14847,32767,65535,131071,262143,524287,1048575,262143,2359295,8388607,16777215]
theorem laws_FnCharges.tab13 : rtab .any (opsOf Try.f4 13) = laws_FnCharges.T13:=by kernel_rfl
theorem laws_FnCharges.bits13 : waitsOk laws_FnCharges.T13.2 laws_FnCharges.B13 = true:=by kernel_rfl
set_option maxHeartbeats 8000000 in
set_option maxRecDepth 100000 in
theorem laws_FnCharges.calls (k : Nat) (A0 : Option Addr) (c0 : Nat) (l0 : List Int) (r : Bool) (w : World) (hr0 : Kd.C (Kd.int .u8) w A0 l0.length l0) (hc0 : l0.length ≤ c0) (h : laws_FnCharges.f k l0 = some r) :
  Calls Try.prog 4 #[.slice A0 l0.length c0] w fun e w' => e = .returned (.bool r) ∧ Below w.heap.size w w':=by
 have hu38:=Try.underlying38
 have HR0:=Aside0.mk hr0
 have HC0:=Aside0.mk hc0
 clear hr0 hc0
 have HB:=Aside0.mk (Below.refl w.heap.size w)
 have H : ((laws_rBig.f l0).bind fun t366 => (if t366 = true then (some true) else ((spec_DrawStayCharge.f k l0).bind fun bt367 => ((impl_StayCharge.f k bt367.1 bt367.2.1 bt367.2.2.1 bt367.2.2.2.1 bt367.2.2.2.2).bind fun bt375 => ((spec_StayCharge.f k bt367.1 bt367.2.1 bt367.2.2.1 bt367.2.2.2.1 bt367.2.2.2.2).bind fun bt377 => (if bt375.1 = bt377.1 then (if (bt375.2 != bt377.2) = true then (laws_FnCharges.j0 k l0 bt367.2.2.2.1 bt367.2.2.2.2 bt375.1 bt375.2 true bt367.1 bt367.2.1 bt367.2.2.1) else (if bt375.2 = true then ((impl_IsValidCharge.f k bt367.1 bt367.2.1 bt367.2.2.1).bind fun t379 => (laws_FnCharges.j0 k l0 bt367.2.2.2.1 bt367.2.2.2.2 bt375.1 bt375.2 (!t379) bt367.1 bt367.2.1 bt367.2.2.1)) else (laws_FnCharges.j0 k l0 bt367.2.2.2.1 bt367.2.2.2.2 bt375.1 bt375.2 false bt367.1 bt367.2.1 bt367.2.2.1))) else (laws_FnCharges.j0 k l0 bt367.2.2.2.1 bt367.2.2.2.2 bt375.1 bt375.2 true bt367.1 bt367.2.1 bt367.2.2.1))))))) = some r:=h
 clear h
 replace H:=Option.bind_eq_some_iff.mp H
 obtain ⟨t366,A20,H⟩ := H
 replace H : (if t366 = true then (some true) else ((spec_DrawStayCharge.f k l0).bind fun bt367 => ((impl_StayCharge.f k bt367.1 bt367.2.1 bt367.2.2.1 bt367.2.2.2.1 bt367.2.2.2.2).bind fun bt375 => ((spec_StayCharge.f k bt367.1 bt367.2.1 bt367.2.2.1 bt367.2.2.2.1 bt367.2.2.2.2).bind fun bt377 => (if bt375.1 = bt377.1 then (if (bt375.2 != bt377.2) = true then (laws_FnCharges.j0 k l0 bt367.2.2.2.1 bt367.2.2.2.2 bt375.1 bt375.2 true bt367.1 bt367.2.1 bt367.2.2.1) else (if bt375.2 = true then ((impl_IsValidCharge.f k bt367.1 bt367.2.1 bt367.2.2.1).bind fun t379 => (laws_FnCharges.j0 k l0 bt367.2.2.2.1 bt367.2.2.2.2 bt375.1 bt375.2 (!t379) bt367.1 bt367.2.1 bt367.2.2.1)) else (laws_FnCharges.j0 k l0 bt367.2.2.2.1 bt367.2.2.2.2 bt375.1 bt375.2 false bt367.1 bt367.2.1 bt367.2.2.1))) else (laws_FnCharges.j0 k l0 bt367.2.2.2.1 bt367.2.2.2.2 bt375.1 bt375.2 true bt367.1 bt367.2.1 bt367.2.2.1)))))) = some r:=H
 have A2:=Aside0.mk A20
 clear A20
 by_cases c3 : t366 = true
 ·subst c3
  have H1 : (some true) = some r:=by rw [if_pos rfl] at H;exact H
  clear H
  have H:=H1
  clear H1
  obtain rfl:=Option.some.inj H
  go_enter Try.func4,Try.ntmps4
  as_aux_lemma =>
   go_wp2_with (((with_reducible refine gate_callee (f:=5) rfl ?_);refine goesL_ (some 36) rfl rfl Try.func5 (by kernel_rfl) rfl #[.slice A0 l0.length c0] rfl (by (try simp only [List.map_toArray,List.map_cons,List.map_nil]);rfl) ?_;(with_reducible refine (laws_rBig.calls _ _ l0 true _ ?side1 ?side2 A2.out).mono ?_);(case side1 => repeat (exact HR0.out));(case side2 => exact HC0.out);rintro e w' ⟨rfl,⟨nd,rfl⟩⟩;refine ⟨_,rfl, ?_⟩))
   go_ret
   exact ⟨by rfl,by repeat ((with_reducible first | exact HB.out | apply pw_below_drewN))⟩
 ·replace c3:=Bool.eq_false_iff.mpr c3
  subst c3
  have H1 : ((spec_DrawStayCharge.f k l0).bind fun bt367 => ((impl_StayCharge.f k bt367.1 bt367.2.1 bt367.2.2.1 bt367.2.2.2.1 bt367.2.2.2.2).bind fun bt375 => ((spec_StayCharge.f k bt367.1 bt367.2.1 bt367.2.2.1 bt367.2.2.2.1 bt367.2.2.2.2).bind fun bt377 => (if bt375.1 = bt377.1 then (if (bt375.2 != bt377.2) = true then (laws_FnCharges.j0 k l0 bt367.2.2.2.1 bt367.2.2.2.2 bt375.1 bt375.2 true bt367.1 bt367.2.1 bt367.2.2.1) else (if bt375.2 = true then ((impl_IsValidCharge.f k bt367.1 bt367.2.1 bt367.2.2.1).bind fun t379 => (laws_FnCharges.j0 k l0 bt367.2.2.2.1 bt367.2.2.2.2 bt375.1 bt375.2 (!t379) bt367.1 bt367.2.1 bt367.2.2.1)) else (laws_FnCharges.j0 k l0 bt367.2.2.2.1 bt367.2.2.2.2 bt375.1 bt375.2 false bt367.1 bt367.2.1 bt367.2.2.1))) else (laws_FnCharges.j0 k l0 bt367.2.2.2.1 bt367.2.2.2.2 bt375.1 bt375.2 true bt367.1 bt367.2.1 bt367.2.2.1))))) = some r:=by rw [if_neg (show ¬ (false = true) by decide)] at H;exact H
  clear H
  have H:=H1
  clear H1
  replace H:=Option.bind_eq_some_iff.mp H
  obtain ⟨⟨t367,t368,t371,t372,t373⟩,A40,H⟩ := H
  replace H : ((impl_StayCharge.f k t367 t368 t371 t372 t373).bind fun bt375 => ((spec_StayCharge.f k t367 t368 t371 t372 t373).bind fun bt377 => (if bt375.1 = bt377.1 then (if (bt375.2 != bt377.2) = true then (laws_FnCharges.j0 k l0 t372 t373 bt375.1 bt375.2 true t367 t368 t371) else (if bt375.2 = true then ((impl_IsValidCharge.f k t367 t368 t371).bind fun t379 => (laws_FnCharges.j0 k l0 t372 t373 bt375.1 bt375.2 (!t379) t367 t368 t371)) else (laws_FnCharges.j0 k l0 t372 t373 bt375.1 bt375.2 false t367 t368 t371))) else (laws_FnCharges.j0 k l0 t372 t373 bt375.1 bt375.2 true t367 t368 t371)))) = some r:=H
  have A4:=Aside0.mk A40
  clear A40
  replace H:=Option.bind_eq_some_iff.mp H
  obtain ⟨⟨t375,t376⟩,A50,H⟩ := H
  replace H : ((spec_StayCharge.f k t367 t368 t371 t372 t373).bind fun bt377 => (if t375 = bt377.1 then (if (t376 != bt377.2) = true then (laws_FnCharges.j0 k l0 t372 t373 t375 t376 true t367 t368 t371) else (if t376 = true then ((impl_IsValidCharge.f k t367 t368 t371).bind fun t379 => (laws_FnCharges.j0 k l0 t372 t373 t375 t376 (!t379) t367 t368 t371)) else (laws_FnCharges.j0 k l0 t372 t373 t375 t376 false t367 t368 t371))) else (laws_FnCharges.j0 k l0 t372 t373 t375 t376 true t367 t368 t371))) = some r:=H
  have A5:=Aside0.mk A50
  clear A50
  replace H:=Option.bind_eq_some_iff.mp H
  obtain ⟨⟨t377,t378⟩,A60,H⟩ := H
  replace H : (if t375 = t377 then (if (t376 != t378) = true then (laws_FnCharges.j0 k l0 t372 t373 t375 t376 true t367 t368 t371) else (if t376 = true then ((impl_IsValidCharge.f k t367 t368 t371).bind fun t379 => (laws_FnCharges.j0 k l0 t372 t373 t375 t376 (!t379) t367 t368 t371)) else (laws_FnCharges.j0 k l0 t372 t373 t375 t376 false t367 t368 t371))) else (laws_FnCharges.j0 k l0 t372 t373 t375 t376 true t367 t368 t371)) = some r:=H
  have A6:=Aside0.mk A60
  clear A60
  have HC7:=Aside0.mk H
  clear H
  go_enter Try.func4,Try.ntmps4
  go_upto_region 6 with (first | ((with_reducible refine gate_callee (f:=5) rfl ?_);refine goesL_ (some 36) rfl rfl Try.func5 (by kernel_rfl) rfl #[.slice A0 l0.length c0] rfl (by (try simp only [List.map_toArray,List.map_cons,List.map_nil]);rfl) ?_;(with_reducible refine (laws_rBig.calls _ _ l0 false _ ?side1 ?side2 A2.out).mono ?_);(case side1 => repeat (exact HR0.out));(case side2 => exact HC0.out);rintro e w' ⟨rfl,⟨nd,rfl⟩⟩;refine ⟨_,rfl, ?_⟩) | ((with_reducible refine gate_callee (f:=14) rfl ?_);refine goesL_ (some 39) rfl rfl Try.func14 (by kernel_rfl) rfl #[.slice A0 l0.length c0] rfl (by (try simp only [List.map_toArray,List.map_cons,List.map_nil]);rfl) ?_;(with_reducible refine (spec_DrawStayCharge.calls k _ _ l0 t367 t368 t371 t372 t373 _ ?side1 ?side2 A4.out).mono ?_);(case side1 => repeat (exact HR0.out));(case side2 => exact HC0.out);rintro e w8 ⟨v369,rfl,ho0,hb⟩;refine ⟨_,rfl, ?_⟩;have n0_:=Aside0.mk (Kd.R_lower ho0 (below_size (by repeat ((with_reducible first | exact HB.out | apply pw_below_drewN)))));have n1_:=Aside0.mk (below_step (by repeat ((with_reducible first | exact HB.out | apply pw_below_drewN))) hb);clear HB;have HO370:=n0_;have HB:=n1_;clear n0_ n1_;(try clear hb);(try clear ho0)) | ((with_reducible refine gate_dst (N:=3) rfl ?_);(try (refine gate_guard (by rfl) ?_;dsimp only));refine box_event ?hg (N:=3) ?hd (cs:=#[.int .i64 0, .slice none 0 0, .int .i64 0]) (t:=38) ?hr ?_;(case hd => rfl);(case hg => rfl);(case hr => (go_simp;done));intro gb374 hg w9 hbox hb;have n0_:=Aside0.mk (Kd.R_below (by exact HO370.out) hb);have n1_:=Aside0.mk (below_step (by exact HB.out) hb);have n2_:=Aside0.mk (hbox);have n3_:=Aside0.mk ((by rw [hg];exact (below_size (by exact HB.out)) : w.heap.size ≤ gb374));have n4_:=Aside0.mk ((by rw [hg];exact (below_size (by exact HB.out)) : w.heap.size ≤ gb374));clear HO370;clear HB;have HO370:=n0_;have HB:=n1_;have BK374:=n2_;have GW374:=n3_;have GE374:=n4_;clear n0_ n1_ n2_ n3_ n4_;clear hb hbox hg;have hcz10_0 : w9.cell? ⟨gb374,0,none⟩ = some (.int .i64 0):=(blk_cell BK374.out 0).trans rfl;have hcz10_1 : w9.cell? ⟨gb374,1,none⟩ = some (.slice none 0 0):=(blk_cell BK374.out 1).trans rfl;have hcz10_2 : w9.cell? ⟨gb374,2,none⟩ = some (.int .i64 0):=(blk_cell BK374.out 2).trans rfl;have hfz10_0:=blk_frozen BK374.out 0;have hfz10_1:=blk_frozen BK374.out 1;have hfz10_2:=blk_frozen BK374.out 2;obtain ⟨Ao11,co11,eo11⟩ := Kd.R_slice HO370.out;subst eo11) | ((with_reducible refine gate_callee (f:=15) rfl ?_);refine goesL_ (some 47) rfl rfl Try.func15 (by kernel_rfl) rfl #[.agg #[.int .i64 t367, .slice Ao11 t368.length co11, .int .i64 t371], .int .i64 t372, .int .i64 t373] rfl (by (try simp only [List.map_toArray,List.map_cons,List.map_nil]);rfl) ?_;(with_reducible refine (impl_StayCharge.calls k t367 _ _ t368 t371 t372 t373 t375 t376 _ ?side1 ?side2 A5.out).mono ?_);(case side1 => refine (Kd.R_reads' (e:=51) (base:=w.heap.size) (ok:=fun k_ => True) (n:=t368.length) (c:=co11) ?_).2.2;exact (by exact (Kd.R_mono (Kd.R_far (p:=⟨gb374,2,none⟩) (Kd.R_far (p:=⟨gb374,1,none⟩) (Kd.R_far (p:=⟨gb374,0,none⟩) (Kd.R_types HO370.out BK374.out (by decide)) (fun _ hk => hk.2) (.int .i64 t367)) (fun _ hk => hk.2) (.slice Ao11 t368.length co11)) (fun _ hk => hk.2) (.int .i64 t371)) (fun _ h_ => h_.1))));(case side2 => exact (Kd.R_reads' HO370.out).2.1);rintro e w12 ⟨rfl,hb⟩;refine ⟨_,rfl, ?_⟩;have n0_:=Aside0.mk (Kd.R_below (by exact (Kd.R_mono (Kd.R_far (p:=⟨gb374,2,none⟩) (Kd.R_far (p:=⟨gb374,1,none⟩) (Kd.R_far (p:=⟨gb374,0,none⟩) (Kd.R_types HO370.out BK374.out (by decide)) (fun _ hk => hk.2) (.int .i64 t367)) (fun _ hk => hk.2) (.slice Ao11 t368.length co11)) (fun _ hk => hk.2) (.int .i64 t371)) (fun _ h_ => h_.1))) hb);have n1_:=Aside0.mk (blk_below (g:=gb374) (o := .cells #[.int .i64 t367, .slice Ao11 t368.length co11, .int .i64 t371] 38 (0,0)) (by refine blk_put (cs:=#[.int .i64 t367, .slice Ao11 t368.length co11, .int .i64 0]) ?_ 2 _ rfl;refine blk_put (cs:=#[.int .i64 t367, .slice none 0 0, .int .i64 0]) ?_ 1 _ rfl;refine blk_put (cs:=#[.int .i64 0, .slice none 0 0, .int .i64 0]) ?_ 0 _ rfl;exact BK374.out) hb);have n2_:=Aside0.mk (below_step (by repeat ((with_reducible first | exact HB.out | refine below_set ?_ GE374.out))) hb);clear HO370;clear BK374;clear HB;have HO370:=n0_;have BK374:=n1_;have HB:=n2_;clear n0_ n1_ n2_;(try clear hb);have hcz13_0 : w12.cell? ⟨gb374,0,none⟩ = some (.int .i64 t367):=(blk_cell BK374.out 0).trans rfl;have hcz13_1 : w12.cell? ⟨gb374,1,none⟩ = some (.slice Ao11 t368.length co11):=(blk_cell BK374.out 1).trans rfl;have hcz13_2 : w12.cell? ⟨gb374,2,none⟩ = some (.int .i64 t371):=(blk_cell BK374.out 2).trans rfl;have hfz13_0:=blk_frozen BK374.out 0;have hfz13_1:=blk_frozen BK374.out 1;have hfz13_2:=blk_frozen BK374.out 2) | ((with_reducible refine gate_callee (f:=16) rfl ?_);refine goesL_ (some 54) rfl rfl Try.func16 (by kernel_rfl) rfl #[.agg #[.int .i64 t367, .slice Ao11 t368.length co11, .int .i64 t371], .int .i64 t372, .int .i64 t373] rfl (by (try simp only [List.map_toArray,List.map_cons,List.map_nil]);rfl) ?_;(with_reducible refine (spec_StayCharge.calls k t367 _ _ t368 t371 t372 t373 t377 t378 _ ?side1 ?side2 A6.out).mono ?_);(case side1 => repeat (exact (Kd.R_reads' HO370.out).2.2));(case side2 => exact (Kd.R_reads' HO370.out).2.1);rintro e w14 ⟨rfl,hb⟩;refine ⟨_,rfl, ?_⟩;have n0_:=Aside0.mk (Kd.R_below (by exact HO370.out) hb);have n1_:=Aside0.mk (blk_below (g:=gb374) (o := .cells #[.int .i64 t367, .slice Ao11 t368.length co11, .int .i64 t371] 38 (0,0)) (by exact BK374.out) hb);have n2_:=Aside0.mk (below_step (by exact HB.out) hb);clear HO370;clear BK374;clear HB;have HO370:=n0_;have BK374:=n1_;have HB:=n2_;clear n0_ n1_ n2_;(try clear hb)))
  (skip)
  go_cut [72] (fun v72 wc => ∃ (kq : Nat) (x72_6 : Bool),v72 = .bool x72_6 ∧ Aside0 (laws_FnCharges.j0 kq l0 t372 t373 t375 t376 x72_6 t367 t368 t371 = some r) ∧ Aside0 (kq ≤ k) ∧ Aside0 (Kd.R k51 51 wc w.heap.size (fun _ => True) (.slice Ao11 t368.length co11) t368) ∧ Aside0 (wc.heap[gb374]? = some (.cells #[.int .i64 t367,(.slice Ao11 t368.length co11), .int .i64 t371] 38 (0,0))) ∧ Aside0 (Below w.heap.size w wc))
  case first =>
   have H:=HC7.out
   clear HC7
   by_cases c15 : t375 = t377
   ·rw [if_pos c15] at H
    have c15b0 : (t375 == t377) = true:=beq_iff_eq.mpr c15
    have c15b1 : (t375 != t377) = false:=bne_eq_false_iff_eq.mpr c15
    clear c15
    (skip)
    by_cases c16 : (t376 != t378) = true
    ·rw [if_pos c16] at H
     have c16b0 : (t376 != t378) = true:=c16
     (try (have c16b1 : decide (t376 = t378) = false:=by simpa using c16))
     (try (have c16b2 : (t376 == t378) = false:=by simpa using c16))
     (try (have c16b3 : ¬ (t376 = t378):=by simpa using c16))
     clear c16
     have H':=Aside0.mk H
     clear H
     go_wp2
     go_meet
     case rel => exact ⟨_,(true),(by rfl),H',⟨by omega⟩,⟨by exact HO370.out⟩,⟨by exact BK374.out⟩,⟨by exact HB.out⟩⟩
    ·rw [if_neg c16] at H
     have c16b0 : (t376 != t378) = false:=by simpa using c16
     (try (have c16b1 : decide (t376 = t378) = true:=by simpa using c16))
     (try (have c16b2 : (t376 == t378) = true:=by simpa using c16))
     clear c16
     by_cases c17 : t376 = true
     ·subst c17
      have H1 : ((impl_IsValidCharge.f k t367 t368 t371).bind fun t379 => (laws_FnCharges.j0 k l0 t372 t373 t375 true (!t379) t367 t368 t371)) = some r:=by rw [if_pos rfl] at H;exact H
      clear H
      have H:=H1
      clear H1
      replace H:=Option.bind_eq_some_iff.mp H
      obtain ⟨t379,A180,H⟩ := H
      replace H : (laws_FnCharges.j0 k l0 t372 t373 t375 true (!t379) t367 t368 t371) = some r:=H
      have A18:=Aside0.mk A180
      clear A180
      have H':=Aside0.mk H
      clear H
      have hcz19_0 : w14.cell? ⟨gb374,0,none⟩ = some (.int .i64 t367):=(blk_cell BK374.out 0).trans rfl
      have hcz19_1 : w14.cell? ⟨gb374,1,none⟩ = some (.slice Ao11 t368.length co11):=(blk_cell BK374.out 1).trans rfl
      have hcz19_2 : w14.cell? ⟨gb374,2,none⟩ = some (.int .i64 t371):=(blk_cell BK374.out 2).trans rfl
      have hfz19_0:=blk_frozen BK374.out 0
      have hfz19_1:=blk_frozen BK374.out 1
      have hfz19_2:=blk_frozen BK374.out 2
      go_wp2_with ((go_at_call 17;(with_reducible refine (impl_IsValidCharge.calls k t367 _ _ t368 t371 t379 _ ?side1 ?side2 A18.out).mono ?_);(case side1 => repeat (exact (Kd.R_reads' HO370.out).2.2));(case side2 => exact (Kd.R_reads' HO370.out).2.1);rintro e w20 ⟨rfl,hb⟩;have n0_:=Aside0.mk (Kd.R_below (by exact HO370.out) hb);have n1_:=Aside0.mk (blk_below (g:=gb374) (o := .cells #[.int .i64 t367, .slice Ao11 t368.length co11, .int .i64 t371] 38 (0,0)) (by exact BK374.out) hb);have n2_:=Aside0.mk (below_step (by exact HB.out) hb);clear HO370;clear BK374;clear HB;have HO370:=n0_;have BK374:=n1_;have HB:=n2_;clear n0_ n1_ n2_;(try clear hb)))
      go_meet
      case rel => exact ⟨_,(!t379),(by rfl),H',⟨by omega⟩,⟨by exact HO370.out⟩,⟨by exact BK374.out⟩,⟨by exact HB.out⟩⟩
     ·replace c17:=Bool.eq_false_iff.mpr c17
      subst c17
      have H1 : (laws_FnCharges.j0 k l0 t372 t373 t375 false false t367 t368 t371) = some r:=by rw [if_neg (show ¬ (false = true) by decide)] at H;exact H
      clear H
      have H:=H1
      clear H1
      have H':=Aside0.mk H
      clear H
      go_wp2
      go_meet
      case rel => exact ⟨_,(false),(by rfl),H',⟨by omega⟩,⟨by exact HO370.out⟩,⟨by exact BK374.out⟩,⟨by exact HB.out⟩⟩
   ·rw [if_neg c15] at H
    have c15b0 : (t375 == t377) = false:=beq_eq_false_iff_ne.mpr c15
    have c15b1 : (t375 != t377) = true:=bne_iff_ne.mpr c15
    (skip)
    have H':=Aside0.mk H
    clear H
    go_wp2
    go_meet
    case rel => exact ⟨_,(true),(by rfl),H',⟨by omega⟩,⟨by exact HO370.out⟩,⟨by exact BK374.out⟩,⟨by exact HB.out⟩⟩
  case rest => as_aux_lemma =>
   clear HC7
   try clear c1
   try clear p2
   try clear c3
   try clear c4
   try clear c5
   try clear c14
   try clear c15
   try clear c15b0
   try clear c15b1
   try clear c16
   try clear c16b0
   try clear c16b1
   try clear c16b2
   try clear c17
   try clear hcz10_0
   try clear hcz10_1
   try clear hcz10_2
   try clear hcz13_0
   try clear hcz13_1
   try clear hcz13_2
   try clear hcz19_0
   try clear hcz19_1
   try clear hcz19_2
   try clear hfz10_0
   try clear hfz10_1
   try clear hfz10_2
   try clear hfz13_0
   try clear hfz13_1
   try clear hfz13_2
   try clear hfz19_0
   try clear hfz19_1
   try clear hfz19_2
   obtain ⟨kq,x72_6,rfl,HA,HJ6,HO_375001,BK374,HB⟩ := hcut
   cases kq with
   | zero => exact absurd HA.out (by simp [laws_FnCharges.j0])
   | succ kj6 =>
    have H:=HA.out
    clear HA
    simp only [laws_FnCharges.j0] at H
    by_cases c21 : x72_6 = true
    ·subst c21
     have H1 : (some false) = some r:=by rw [if_pos rfl] at H;exact H
     clear H
     have H:=H1
     clear H1
     obtain rfl:=Option.some.inj H
     as_aux_lemma =>
      go_wp2
      go_ret
      exact ⟨by rfl,by exact HB.out⟩
    ·replace c21:=Bool.eq_false_iff.mpr c21
     subst c21
     have H1 : (if t376 = true then ((impl_StayCharge.f kj6 t367 t368 t371 t372 (wrap64 (t373 + 1))).bind fun bt380 => (if bt380.2 = true then (laws_FnCharges.j1 kj6 l0 t373 (decide (bt380.1 < t375)) t367 t368 t371) else (laws_FnCharges.j1 kj6 l0 t373 false t367 t368 t371))) else (laws_FnCharges.j2 kj6 l0)) = some r:=by rw [if_neg (show ¬ (false = true) by decide)] at H;exact H
     clear H
     have H:=H1
     clear H1
     have HC22:=Aside0.mk H
     clear H
     go_upto_if 73 with (fail)
     go_cut [] (fun wc => ∃ (kq : Nat),Aside0 (laws_FnCharges.j2 kq l0 = some r) ∧ Aside0 (kq ≤ kj6) ∧ Aside0 (Kd.R k51 51 wc w.heap.size (fun _ => True) (.slice Ao11 t368.length co11) t368) ∧ Aside0 (wc.heap[gb374]? = some (.cells #[.int .i64 t367,(.slice Ao11 t368.length co11), .int .i64 t371] 38 (0,0))) ∧ Aside0 (Below w.heap.size w wc))
     case first =>
      have H:=HC22.out
      clear HC22
      by_cases c23 : t376 = true
      ·subst c23
       have H1 : ((impl_StayCharge.f kj6 t367 t368 t371 t372 (wrap64 (t373 + 1))).bind fun bt380 => (if bt380.2 = true then (laws_FnCharges.j1 kj6 l0 t373 (decide (bt380.1 < t375)) t367 t368 t371) else (laws_FnCharges.j1 kj6 l0 t373 false t367 t368 t371))) = some r:=by rw [if_pos rfl] at H;exact H
       clear H
       have H:=H1
       clear H1
       replace H:=Option.bind_eq_some_iff.mp H
       obtain ⟨⟨t380,t381⟩,A240,H⟩ := H
       replace H : (if t381 = true then (laws_FnCharges.j1 kj6 l0 t373 (decide (t380 < t375)) t367 t368 t371) else (laws_FnCharges.j1 kj6 l0 t373 false t367 t368 t371)) = some r:=H
       have A24:=Aside0.mk A240
       clear A240
       have HC25:=Aside0.mk H
       clear H
       have hcz26_0 : wc.cell? ⟨gb374,0,none⟩ = some (.int .i64 t367):=(blk_cell BK374.out 0).trans rfl
       have hcz26_1 : wc.cell? ⟨gb374,1,none⟩ = some (.slice Ao11 t368.length co11):=(blk_cell BK374.out 1).trans rfl
       have hcz26_2 : wc.cell? ⟨gb374,2,none⟩ = some (.int .i64 t371):=(blk_cell BK374.out 2).trans rfl
       have hfz26_0:=blk_frozen BK374.out 0
       have hfz26_1:=blk_frozen BK374.out 1
       have hfz26_2:=blk_frozen BK374.out 2
       go_upto_region 10 with (((with_reducible refine gate_callee (f:=15) rfl ?_);refine goesL_ (some 79) rfl rfl Try.func15 (by kernel_rfl) rfl #[.agg #[.int .i64 t367, .slice Ao11 t368.length co11, .int .i64 t371], .int .i64 t372, .int .i64 (wrap64 (t373 + 1))] rfl (by (try simp only [List.map_toArray,List.map_cons,List.map_nil]);rfl) ?_;(with_reducible refine (impl_StayCharge.calls kj6 t367 _ _ t368 t371 t372 (wrap64 (t373 + 1)) t380 t381 _ ?side1 ?side2 A24.out).mono ?_);(case side1 => repeat (exact (Kd.R_reads' HO_375001.out).2.2));(case side2 => exact (Kd.R_reads' HO_375001.out).2.1);rintro e w27 ⟨rfl,hb⟩;refine ⟨_,rfl, ?_⟩;have n0_:=Aside0.mk (Kd.R_below (by exact HO_375001.out) hb);have n1_:=Aside0.mk (blk_below (g:=gb374) (o := .cells #[.int .i64 t367, .slice Ao11 t368.length co11, .int .i64 t371] 38 (0,0)) (by exact BK374.out) hb);have n2_:=Aside0.mk (below_step (by exact HB.out) hb);clear HO_375001;clear BK374;clear HB;have HO_375001:=n0_;have BK374:=n1_;have HB:=n2_;clear n0_ n1_ n2_;(try clear hb)))
       (skip)
       go_cut [87] (fun v87 wc => ∃ (kq : Nat) (x87_24 : Bool),v87 = .bool x87_24 ∧ Aside0 (laws_FnCharges.j1 kq l0 t373 x87_24 t367 t368 t371 = some r) ∧ Aside0 (kq ≤ kj6) ∧ Aside0 (Kd.R k51 51 wc w.heap.size (fun _ => True) (.slice Ao11 t368.length co11) t368) ∧ Aside0 (wc.heap[gb374]? = some (.cells #[.int .i64 t367,(.slice Ao11 t368.length co11), .int .i64 t371] 38 (0,0))) ∧ Aside0 (Below w.heap.size w wc))
       case first =>
        have H:=HC25.out
        clear HC25
        by_cases c28 : t381 = true
        ·subst c28
         have H1 : (laws_FnCharges.j1 kj6 l0 t373 (decide (t380 < t375)) t367 t368 t371) = some r:=by rw [if_pos rfl] at H;exact H
         clear H
         have H:=H1
         clear H1
         have H':=Aside0.mk H
         clear H
         go_wp2
         go_meet
         case rel => exact ⟨_,(decide (t380 < t375)),(by rfl),H',⟨by have:=HJ6.out;omega⟩,⟨by exact HO_375001.out⟩,⟨by exact BK374.out⟩,⟨by exact HB.out⟩⟩
        ·replace c28:=Bool.eq_false_iff.mpr c28
         subst c28
         have H1 : (laws_FnCharges.j1 kj6 l0 t373 false t367 t368 t371) = some r:=by rw [if_neg (show ¬ (false = true) by decide)] at H;exact H
         clear H
         have H:=H1
         clear H1
         have H':=Aside0.mk H
         clear H
         go_wp2
         go_meet
         case rel => exact ⟨_,(false),(by rfl),H',⟨by have:=HJ6.out;omega⟩,⟨by exact HO_375001.out⟩,⟨by exact BK374.out⟩,⟨by exact HB.out⟩⟩
       case rest => as_aux_lemma =>
        clear HC25
        try clear c1
        try clear c2
        try clear p2
        try clear c3
        try clear c4
        try clear c5
        try clear p6
        try clear c14
        try clear c15
        try clear c15b0
        try clear c15b1
        try clear c16
        try clear c16b0
        try clear c16b1
        try clear c16b2
        try clear c17
        try clear c21
        try clear c23
        try clear c28
        try clear hcz10_0
        try clear hcz10_1
        try clear hcz10_2
        try clear hcz13_0
        try clear hcz13_1
        try clear hcz13_2
        try clear hcz19_0
        try clear hcz19_1
        try clear hcz19_2
        try clear hcz26_0
        try clear hcz26_1
        try clear hcz26_2
        try clear hfz10_0
        try clear hfz10_1
        try clear hfz10_2
        try clear hfz13_0
        try clear hfz13_1
        try clear hfz13_2
        try clear hfz19_0
        try clear hfz19_1
        try clear hfz19_2
        try clear hfz26_0
        try clear hfz26_1
        try clear hfz26_2
        try clear p2
        obtain ⟨kq,x87_24,rfl,HA,HJ24,HO_375001,BK374,HB⟩ := hcut
        cases kq with
        | zero => exact absurd HA.out (by simp [laws_FnCharges.j1])
        | succ kj24 =>
         have H:=HA.out
         clear HA
         simp only [laws_FnCharges.j1] at H
         by_cases c29 : x87_24 = true
         ·subst c29
          have H1 : (some false) = some r:=by rw [if_pos rfl] at H;exact H
          clear H
          have H:=H1
          clear H1
          obtain rfl:=Option.some.inj H
          as_aux_lemma =>
           go_wp2
           go_ret
           exact ⟨by rfl,by exact HB.out⟩
         ·replace c29:=Bool.eq_false_iff.mpr c29
          subst c29
          have H1 : ((impl_SplitStay.f kj24 t367 t368 t371 t373).bind fun bt382 => (if bt382.2 = true then ((laws_rSum.f kj24 bt382.1).bind fun t386 => (if t386 = t373 then (if (bt382.1.length : Int) = (wrap64 ((t368.length : Int) + 1)) then (if 0 < (bt382.1.length : Int) then (if (rd bt382.1 0) > t367 then (some false) else (laws_FnCharges.j2 kj24 l0)) else (none)) else (some false)) else (some false))) else (some false))) = some r:=by rw [if_neg (show ¬ (false = true) by decide)] at H;exact H
          clear H
          have H:=H1
          clear H1
          replace H:=Option.bind_eq_some_iff.mp H
          obtain ⟨⟨t382,t385⟩,A300,H⟩ := H
          replace H : (if t385 = true then ((laws_rSum.f kj24 t382).bind fun t386 => (if t386 = t373 then (if (t382.length : Int) = (wrap64 ((t368.length : Int) + 1)) then (if 0 < (t382.length : Int) then (if (rd t382 0) > t367 then (some false) else (laws_FnCharges.j2 kj24 l0)) else (none)) else (some false)) else (some false))) else (some false)) = some r:=H
          have A30:=Aside0.mk A300
          clear A300
          by_cases c31 : t385 = true
          ·subst c31
           have H1 : ((laws_rSum.f kj24 t382).bind fun t386 => (if t386 = t373 then (if (t382.length : Int) = (wrap64 ((t368.length : Int) + 1)) then (if 0 < (t382.length : Int) then (if (rd t382 0) > t367 then (some false) else (laws_FnCharges.j2 kj24 l0)) else (none)) else (some false)) else (some false))) = some r:=by rw [if_pos rfl] at H;exact H
           clear H
           have H:=H1
           clear H1
           replace H:=Option.bind_eq_some_iff.mp H
           obtain ⟨t386,A320,H⟩ := H
           replace H : (if t386 = t373 then (if (t382.length : Int) = (wrap64 ((t368.length : Int) + 1)) then (if 0 < (t382.length : Int) then (if (rd t382 0) > t367 then (some false) else (laws_FnCharges.j2 kj24 l0)) else (none)) else (some false)) else (some false)) = some r:=H
           have A32:=Aside0.mk A320
           clear A320
           by_cases c33 : t386 = t373
           ·rw [if_pos c33] at H
            have c33b0 : (t386 == t373) = true:=beq_iff_eq.mpr c33
            have c33b1 : (t386 != t373) = false:=bne_eq_false_iff_eq.mpr c33
            clear c33
            by_cases c34 : (t382.length : Int) = (wrap64 ((t368.length : Int) + 1))
            ·rw [if_pos c34] at H
             have c34b0 : ((t382.length : Int) == (wrap64 ((t368.length : Int) + 1))) = true:=beq_iff_eq.mpr c34
             have c34b1 : ((t382.length : Int) != (wrap64 ((t368.length : Int) + 1))) = false:=bne_eq_false_iff_eq.mpr c34
             clear c34
             by_cases c35 : 0 < (t382.length : Int)
             ·rw [if_pos c35] at H
              have c35b0 : decide (0 < (t382.length : Int)) = true:=decide_eq_true c35
              have c35b1 : decide (0 < t382.length) = true:=decide_eq_true (by omega)
              clear c35
              by_cases c36 : (rd t382 0) > t367
              ·rw [if_pos c36] at H
               have c36b0 : decide (t367 < (rd t382 0)) = true:=decide_eq_true c36
               clear c36
               obtain rfl:=Option.some.inj H
               have hcz37_0 : wc.cell? ⟨gb374,0,none⟩ = some (.int .i64 t367):=(blk_cell BK374.out 0).trans rfl
               have hcz37_1 : wc.cell? ⟨gb374,1,none⟩ = some (.slice Ao11 t368.length co11):=(blk_cell BK374.out 1).trans rfl
               have hcz37_2 : wc.cell? ⟨gb374,2,none⟩ = some (.int .i64 t371):=(blk_cell BK374.out 2).trans rfl
               have hfz37_0:=blk_frozen BK374.out 0
               have hfz37_1:=blk_frozen BK374.out 1
               have hfz37_2:=blk_frozen BK374.out 2
               try go_wp2_with (((with_reducible refine gate_callee (f:=18) rfl ?_);refine goesL_ (some 91) rfl rfl Try.func18 (by kernel_rfl) rfl #[.agg #[.int .i64 t367, .slice Ao11 t368.length co11, .int .i64 t371], .int .i64 t373] rfl (by (try simp only [List.map_toArray,List.map_cons,List.map_nil]);rfl) ?_;(with_reducible refine (impl_SplitStay.calls kj24 t367 _ _ t368 t371 t373 t382 true _ ?side1 ?side2 A30.out).mono ?_);(case side1 => repeat (exact (Kd.R_reads' HO_375001.out).2.2));(case side2 => exact (Kd.R_reads' HO_375001.out).2.1);rintro e w38 ⟨v383,rfl,ho0,hb⟩;refine ⟨_,rfl, ?_⟩;have n0_:=Aside0.mk (Kd.R_below (by exact HO_375001.out) hb);have n1_:=Aside0.mk (Kd.R_lower ho0 (below_size (by exact HB.out)));have n2_:=Aside0.mk (blk_below (g:=gb374) (o := .cells #[.int .i64 t367, .slice Ao11 t368.length co11, .int .i64 t371] 38 (0,0)) (by exact BK374.out) hb);have n3_:=Aside0.mk (below_step (by exact HB.out) hb);clear HO_375001;clear BK374;clear HB;have HO_375001:=n0_;have HO384:=n1_;have BK374:=n2_;have HB:=n3_;clear n0_ n1_ n2_ n3_;(try clear hb);(try clear ho0)))
               have n0_:=Aside0.mk (Kd.R_drew HO_375001.out)
               have n1_:=Aside0.mk (Kd.R_drew HO384.out)
               have n2_:=Aside0.mk (blk_drew BK374.out)
               have n3_:=Aside0.mk (below_drew1 HB.out)
               clear HO_375001
               clear HO384
               clear BK374
               clear HB
               have HO_375001:=n0_
               have HO384:=n1_
               have BK374:=n2_
               have HB:=n3_
               clear n0_ n1_ n2_ n3_
               obtain ⟨Ao40,co40,eo40⟩ := Kd.R_slice HO384.out
               (subst eo40)
               have p387 : 0 ≤ (0 : Int):=(by omega)
               have q387 : 0 < (t382.length : Int):=of_decide_eq_true (by (with_reducible assumption))
               obtain ⟨ad387,e387,hx387_0⟩ := Kd.at_int (Kd.R_reads' HO384.out).2.2 0 p387 q387
               cases e387
               have qi387 : (0 < t382.length) = True:=eq_true (by omega)
               (try rw [show ((0 : Int)).toNat = 0 from rfl] at hx387_0)
               (try rw [Addr.add_zero'] at hx387_0)
               replace p387:=eq_true p387
               replace q387:=eq_true q387
               refine start_ (n:=25) (S:=fun w' => w'.cell? ⟨gb374,0,none⟩ = some (.int .i64 t367) ∧ w'.cell? ⟨gb374,1,none⟩ = some (.slice Ao11 t368.length co11) ∧ w'.cell? ⟨gb374,2,none⟩ = some (.int .i64 t371) ∧ w'.cell? ad387 = some (.int .i64 (rd t382 0))) (ds := []) #[false,false,false,false,false,false,false,false,false,false,false,false,false,false,false,false,false,false,false,false,false,false,false,false,false] (by kernel_rfl) rfl rfl ⟨(blk_cell BK374.out 0).trans rfl,(blk_cell BK374.out 1).trans rfl,(blk_cell BK374.out 2).trans rfl,hx387_0⟩ (fun hHeld => ?_);refine with_tabW laws_FnCharges.tab13 laws_FnCharges.bits13 (fun HT_ HW_ => ?_)
               generalize w38.drew = w39 at HO_375001 HO384 BK374 HB hx387_0 hHeld ⊢
               refine pure_ (i:=0) (N:=some 94) (v:=?_) (a':=?_) #[true,false,false,false,false,false,false,false,false,false,false,false,false,false,false,false,false,false,false,false,false,false,false,false,false] rfl rfl (any_of HT_.out (by kernel_rfl)) (fun _ _ _ h => h) (Or.inl ⟨by rfl, ?_⟩) ?_ ?_
               rotate_left
               ·intro w'
                go_simp
                with_reducible rfl
               rotate_left
               ·simp only [Act.put,sA_,s0_,s1_,i64_w,i32_w]
                rfl
               refine pure_ (i:=1) (N:=some 95) (v:=?_) (a':=?_) #[true,true,false,false,false,false,false,false,false,false,false,false,false,false,false,false,false,false,false,false,false,false,false,false,false] rfl rfl (any_of HT_.out (by kernel_rfl)) (fun _ _ _ h => h) (Or.inl ⟨by rfl, ?_⟩) ?_ ?_
               rotate_left
               ·intro w'
                go_simp
                with_reducible rfl
               rotate_left
               ·simp only [Act.put,sA_,s0_,s1_,i64_w,i32_w]
                rfl
               refine pure_ (i:=2) (N:=some 96) (v:=?_) (a':=?_) #[true,true,true,false,false,false,false,false,false,false,false,false,false,false,false,false,false,false,false,false,false,false,false,false,false] rfl rfl (any_of HT_.out (by kernel_rfl)) (fun _ _ _ h => h) (Or.inl ⟨by rfl, ?_⟩) ?_ ?_
               rotate_left
               ·intro w'
                go_simp
                with_reducible rfl
               rotate_left
               ·simp only [Act.put,sA_,s0_,s1_,i64_w,i32_w]
                rfl
               refine pure_ (i:=3) (N:=some 97) (v:=?_) (a':=?_) #[true,true,true,true,false,false,false,false,false,false,false,false,false,false,false,false,false,false,false,false,false,false,false,false,false] rfl rfl (any_of HT_.out (by kernel_rfl)) (fun _ _ _ h => h) (Or.inl ⟨by rfl, ?_⟩) ?_ ?_
               rotate_left
               ·intro w'
                go_simp
                with_reducible rfl
               rotate_left
               ·simp only [Act.put,sA_,s0_,s1_,i64_w,i32_w]
                rfl
               refine pure_ (i:=5) (N:=some 99) (v:=?_) (a':=?_) #[true,true,true,true,false,true,false,false,false,false,false,false,false,false,false,false,false,false,false,false,false,false,false,false,false] rfl rfl (any_of HT_.out (by kernel_rfl)) (fun _ _ _ h => h) (Or.inl ⟨by rfl, ?_⟩) ?_ ?_
               rotate_left
               ·intro w'
                go_simp
                with_reducible rfl
               rotate_left
               ·simp only [Act.put,sA_,s0_,s1_,i64_w,i32_w]
                rfl
               refine one_ (i:=4) (N:=some 98) #[true,true,true,true,true,true,false,false,false,false,false,false,false,false,false,false,false,false,false,false,false,false,false,false,false] rfl rfl (one_of HT_.out (by kernel_rfl)) (by decide) (fun K hK => ?_)
               refine goes_ Try.func19 (by kernel_rfl) rfl #[.slice (some ad387) t382.length co40] (by rfl) rfl rfl (by (try simp only [List.map_toArray,List.map_cons,List.map_nil]);rfl) ?_
               with_reducible refine (laws_rSum.calls kj24 _ _ t382 t386 _ ?side1 ?side2 A32.out).mono ?_
               (case side1 => repeat (exact (Kd.R_reads' HO384.out).2.2))
               (case side2 => exact (Kd.R_reads' HO384.out).2.1)
               rintro e w' ⟨rfl,⟨nd,rfl⟩⟩
               refine ⟨_,rfl, ?_⟩
               refine hK.out _ _ ⟨(blk_cell BK374.out 0).trans rfl,(blk_cell BK374.out 1).trans rfl,(blk_cell BK374.out 2).trans rfl,hHeld.2.2.2⟩ (fun hHeld => ?_)
               clear hK K
               refine norm_ (a':=?_) ?_ ?_
               rotate_left
               ·show Act.put _ (some 98) _ = _
                simp only [Act.put,sA_,s0_,s1_,i64_w,i32_w]
                rfl
               refine pure_ (i:=6) (N:=some 100) (v:=?_) (a':=?_) #[true,true,true,true,true,true,true,false,false,false,false,false,false,false,false,false,false,false,false,false,false,false,false,false,false] rfl rfl (any_of HT_.out (by kernel_rfl)) (fun _ _ _ h => h) (Or.inl ⟨by rfl, ?_⟩) ?_ ?_
               rotate_left
               ·intro w'
                go_simp
                with_reducible rfl
               rotate_left
               ·simp only [Act.put,sA_,s0_,s1_,i64_w,i32_w]
                rfl
               refine pure_ (i:=7) (N:=some 101) (v:=?_) (a':=?_) #[true,true,true,true,true,true,true,true,false,false,false,false,false,false,false,false,false,false,false,false,false,false,false,false,false] rfl rfl (any_of HT_.out (by kernel_rfl)) (fun _ _ _ h => h) (Or.inl ⟨by rfl, ?_⟩) ?_ ?_
               rotate_left
               ·intro w'
                go_simp
                with_reducible rfl
               rotate_left
               ·simp only [Act.put,sA_,s0_,s1_,i64_w,i32_w]
                rfl
               refine pure_ (i:=8) (N:=some 102) (v:=?_) (a':=?_) #[true,true,true,true,true,true,true,true,true,false,false,false,false,false,false,false,false,false,false,false,false,false,false,false,false] rfl rfl (any_of HT_.out (by kernel_rfl)) (fun _ _ _ h => h) (Or.inl ⟨by rfl, ?_⟩) ?_ ?_
               rotate_left
               ·intro w'
                go_simp
                with_reducible rfl
               rotate_left
               ·simp only [Act.put,sA_,s0_,s1_,i64_w,i32_w]
                rfl
               refine pure_ (i:=9) (N:=some 103) (v:=?_) (a':=?_) #[true,true,true,true,true,true,true,true,true,true,false,false,false,false,false,false,false,false,false,false,false,false,false,false,false] rfl rfl (any_of HT_.out (by kernel_rfl)) (fun _ _ _ h => h) (Or.inl ⟨by rfl, ?_⟩) ?_ ?_
               rotate_left
               ·intro w'
                go_simp
                with_reducible rfl
               rotate_left
               ·simp only [Act.put,sA_,s0_,s1_,i64_w,i32_w]
                rfl
               refine pure_ (i:=10) (N:=some 104) (v:=?_) (a':=?_) #[true,true,true,true,true,true,true,true,true,true,true,false,false,false,false,false,false,false,false,false,false,false,false,false,false] rfl rfl (any_of HT_.out (by kernel_rfl)) (fun _ _ _ h => h) (Or.inl ⟨by rfl, ?_⟩) ?_ ?_
               rotate_left
               ·intro w'
                go_simp
                with_reducible rfl
               rotate_left
               ·simp only [Act.put,sA_,s0_,s1_,i64_w,i32_w]
                rfl
               refine pure_ (i:=11) (N:=some 105) (v:=?_) (a':=?_) #[true,true,true,true,true,true,true,true,true,true,true,true,false,false,false,false,false,false,false,false,false,false,false,false,false] rfl rfl (any_of HT_.out (by kernel_rfl)) (fun _ _ _ h => h) (Or.inl ⟨by rfl, ?_⟩) ?_ ?_
               rotate_left
               ·intro w'
                go_simp
                with_reducible rfl
               rotate_left
               ·simp only [Act.put,sA_,s0_,s1_,i64_w,i32_w]
                rfl
               refine take_ (i:=12) (N:=some 106) (v:=?_) (a':=?_) #[true,true,true,true,true,true,true,true,true,true,true,true,true,false,false,false,false,false,false,false,false,false,false,false,false] rfl rfl (take_ofW HT_.out HW_.out (by kernel_rfl)) (fun _ _ _ h => h) (Or.inl ⟨by rfl, ?_⟩) hHeld ?_ ?_
               rotate_left
               ·rintro w' ⟨s0,s1,s2,s3⟩
                go_simp
                with_reducible rfl
               rotate_left
               ·simp only [Act.put,sA_,s0_,s1_,i64_w,i32_w]
                rfl
               refine pure_ (i:=13) (N:=some 107) (v:=?_) (a':=?_) #[true,true,true,true,true,true,true,true,true,true,true,true,true,true,false,false,false,false,false,false,false,false,false,false,false] rfl rfl (any_of HT_.out (by kernel_rfl)) (fun _ _ _ h => h) (Or.inl ⟨by rfl, ?_⟩) ?_ ?_
               rotate_left
               ·intro w'
                go_simp
                with_reducible rfl
               rotate_left
               ·simp only [Act.put,sA_,s0_,s1_,i64_w,i32_w]
                rfl
               refine pure_ (i:=14) (N:=some 108) (v:=?_) (a':=?_) #[true,true,true,true,true,true,true,true,true,true,true,true,true,true,true,false,false,false,false,false,false,false,false,false,false] rfl rfl (any_of HT_.out (by kernel_rfl)) (fun _ _ _ h => h) (Or.inl ⟨by rfl, ?_⟩) ?_ ?_
               rotate_left
               ·intro w'
                go_simp
                with_reducible rfl
               rotate_left
               ·simp only [Act.put,sA_,s0_,s1_,i64_w,i32_w]
                rfl
               refine pure_ (i:=15) (N:=some 109) (v:=?_) (a':=?_) #[true,true,true,true,true,true,true,true,true,true,true,true,true,true,true,true,false,false,false,false,false,false,false,false,false] rfl rfl (any_of HT_.out (by kernel_rfl)) (fun _ _ _ h => h) (Or.inl ⟨by rfl, ?_⟩) ?_ ?_
               rotate_left
               ·intro w'
                go_simp
                with_reducible rfl
               rotate_left
               ·simp only [Act.put,sA_,s0_,s1_,i64_w,i32_w]
                rfl
               refine pure_ (i:=16) (N:=some 110) (v:=?_) (a':=?_) #[true,true,true,true,true,true,true,true,true,true,true,true,true,true,true,true,true,false,false,false,false,false,false,false,false] rfl rfl (any_of HT_.out (by kernel_rfl)) (fun _ _ _ h => h) (Or.inl ⟨by rfl, ?_⟩) ?_ ?_
               rotate_left
               ·intro w'
                go_simp
                with_reducible rfl
               rotate_left
               ·simp only [Act.put,sA_,s0_,s1_,i64_w,i32_w]
                rfl
               refine pure_ (i:=17) (N:=some 111) (v:=?_) (a':=?_) #[true,true,true,true,true,true,true,true,true,true,true,true,true,true,true,true,true,true,false,false,false,false,false,false,false] rfl rfl (any_of HT_.out (by kernel_rfl)) (fun _ _ _ h => h) (Or.inl ⟨by rfl, ?_⟩) ?_ ?_
               rotate_left
               ·intro w'
                go_simp
                with_reducible rfl
               rotate_left
               ·simp only [Act.put,sA_,s0_,s1_,i64_w,i32_w]
                rfl
               refine pure_ (i:=18) (N:=some 112) (v:=?_) (a':=?_) #[true,true,true,true,true,true,true,true,true,true,true,true,true,true,true,true,true,true,true,false,false,false,false,false,false] rfl rfl (any_of HT_.out (by kernel_rfl)) (fun _ _ _ h => h) (Or.inl ⟨by rfl, ?_⟩) ?_ ?_
               rotate_left
               ·intro w'
                go_simp
                with_reducible rfl
               rotate_left
               ·simp only [Act.put,sA_,s0_,s1_,i64_w,i32_w]
                rfl
               refine pure_ (i:=19) (N:=some 113) (v:=?_) (a':=?_) #[true,true,true,true,true,true,true,true,true,true,true,true,true,true,true,true,true,true,true,true,false,false,false,false,false] rfl rfl (any_of HT_.out (by kernel_rfl)) (fun _ _ _ h => h) (Or.inl ⟨by rfl, ?_⟩) ?_ ?_
               rotate_left
               ·intro w'
                go_simp
                with_reducible rfl
               rotate_left
               ·simp only [Act.put,sA_,s0_,s1_,i64_w,i32_w]
                rfl
               refine pure_ (i:=21) (N:=some 115) (v:=?_) (a':=?_) #[true,true,true,true,true,true,true,true,true,true,true,true,true,true,true,true,true,true,true,true,false,true,false,false,false] rfl rfl (any_of HT_.out (by kernel_rfl)) (fun _ _ _ h => h) (Or.inl ⟨by rfl, ?_⟩) ?_ ?_
               rotate_left
               ·intro w'
                go_simp
                with_reducible rfl
               rotate_left
               ·simp only [Act.put,sA_,s0_,s1_,i64_w,i32_w]
                rfl
               refine take_ (i:=20) (N:=some 114) (v:=?_) (a':=?_) #[true,true,true,true,true,true,true,true,true,true,true,true,true,true,true,true,true,true,true,true,true,true,false,false,false] rfl rfl (take_ofW HT_.out HW_.out (by kernel_rfl)) (fun _ _ _ h => h) (Or.inl ⟨by rfl, ?_⟩) hHeld ?_ ?_
               rotate_left
               ·rintro w' ⟨s0,s1,s2,s3⟩
                go_simp
                with_reducible rfl
               rotate_left
               ·simp only [Act.put,sA_,s0_,s1_,i64_w,i32_w]
                rfl
               refine take_ (i:=22) (N:=some 116) (v:=?_) (a':=?_) #[true,true,true,true,true,true,true,true,true,true,true,true,true,true,true,true,true,true,true,true,true,true,true,false,false] rfl rfl (take_ofW HT_.out HW_.out (by kernel_rfl)) (fun _ _ _ h => h) (Or.inl ⟨by rfl, ?_⟩) hHeld ?_ ?_
               rotate_left
               ·rintro w' ⟨s0,s1,s2,s3⟩
                go_simp
                with_reducible rfl
               rotate_left
               ·simp only [Act.put,sA_,s0_,s1_,i64_w,i32_w]
                rfl
               refine pure_ (i:=23) (N:=some 117) (v:=?_) (a':=?_) #[true,true,true,true,true,true,true,true,true,true,true,true,true,true,true,true,true,true,true,true,true,true,true,true,false] rfl rfl (any_of HT_.out (by kernel_rfl)) (fun _ _ _ h => h) (Or.inl ⟨by rfl, ?_⟩) ?_ ?_
               rotate_left
               ·intro w'
                go_simp
                with_reducible rfl
               rotate_left
               ·simp only [Act.put,sA_,s0_,s1_,i64_w,i32_w]
                rfl
               refine pure_ (i:=24) (N:=some 118) (v:=?_) (a':=?_) #[true,true,true,true,true,true,true,true,true,true,true,true,true,true,true,true,true,true,true,true,true,true,true,true,true] rfl rfl (any_of HT_.out (by kernel_rfl)) (fun _ _ _ h => h) (Or.inl ⟨by rfl, ?_⟩) ?_ ?_
               rotate_left
               ·intro w'
                go_simp
                with_reducible rfl
               rotate_left
               ·simp only [Act.put,sA_,s0_,s1_,i64_w,i32_w]
                rfl
               refine done_ (done_of HT_.out (by kernel_rfl)) ?_
               try go_wp2
               go_ret
               exact ⟨by rfl,by repeat ((with_reducible first | exact HB.out | apply pw_below_drewN))⟩
              ·rw [if_neg c36] at H
               have c36b0 : decide (t367 < (rd t382 0)) = false:=decide_eq_false c36
               clear c36
               have H':=Aside0.mk H
               clear H
               have hcz41_0 : wc.cell? ⟨gb374,0,none⟩ = some (.int .i64 t367):=(blk_cell BK374.out 0).trans rfl
               have hcz41_1 : wc.cell? ⟨gb374,1,none⟩ = some (.slice Ao11 t368.length co11):=(blk_cell BK374.out 1).trans rfl
               have hcz41_2 : wc.cell? ⟨gb374,2,none⟩ = some (.int .i64 t371):=(blk_cell BK374.out 2).trans rfl
               have hfz41_0:=blk_frozen BK374.out 0
               have hfz41_1:=blk_frozen BK374.out 1
               have hfz41_2:=blk_frozen BK374.out 2
               try go_wp2_with (((with_reducible refine gate_callee (f:=18) rfl ?_);refine goesL_ (some 91) rfl rfl Try.func18 (by kernel_rfl) rfl #[.agg #[.int .i64 t367, .slice Ao11 t368.length co11, .int .i64 t371], .int .i64 t373] rfl (by (try simp only [List.map_toArray,List.map_cons,List.map_nil]);rfl) ?_;(with_reducible refine (impl_SplitStay.calls kj24 t367 _ _ t368 t371 t373 t382 true _ ?side1 ?side2 A30.out).mono ?_);(case side1 => repeat (exact (Kd.R_reads' HO_375001.out).2.2));(case side2 => exact (Kd.R_reads' HO_375001.out).2.1);rintro e w42 ⟨v383,rfl,ho0,hb⟩;refine ⟨_,rfl, ?_⟩;have n0_:=Aside0.mk (Kd.R_below (by exact HO_375001.out) hb);have n1_:=Aside0.mk (Kd.R_lower ho0 (below_size (by exact HB.out)));have n2_:=Aside0.mk (blk_below (g:=gb374) (o := .cells #[.int .i64 t367, .slice Ao11 t368.length co11, .int .i64 t371] 38 (0,0)) (by exact BK374.out) hb);have n3_:=Aside0.mk (below_step (by exact HB.out) hb);clear HO_375001;clear BK374;clear HB;have HO_375001:=n0_;have HO384:=n1_;have BK374:=n2_;have HB:=n3_;clear n0_ n1_ n2_ n3_;(try clear hb);(try clear ho0)))
               have n0_:=Aside0.mk (Kd.R_drew HO_375001.out)
               have n1_:=Aside0.mk (Kd.R_drew HO384.out)
               have n2_:=Aside0.mk (blk_drew BK374.out)
               have n3_:=Aside0.mk (below_drew1 HB.out)
               clear HO_375001
               clear HO384
               clear BK374
               clear HB
               have HO_375001:=n0_
               have HO384:=n1_
               have BK374:=n2_
               have HB:=n3_
               clear n0_ n1_ n2_ n3_
               obtain ⟨Ao44,co44,eo44⟩ := Kd.R_slice HO384.out
               (subst eo44)
               have p387 : 0 ≤ (0 : Int):=(by omega)
               have q387 : 0 < (t382.length : Int):=of_decide_eq_true (by (with_reducible assumption))
               obtain ⟨ad387,e387,hx387_0⟩ := Kd.at_int (Kd.R_reads' HO384.out).2.2 0 p387 q387
               cases e387
               have qi387 : (0 < t382.length) = True:=eq_true (by omega)
               (try rw [show ((0 : Int)).toNat = 0 from rfl] at hx387_0)
               (try rw [Addr.add_zero'] at hx387_0)
               replace p387:=eq_true p387
               replace q387:=eq_true q387
               refine start_ (n:=25) (S:=fun w' => w'.cell? ⟨gb374,0,none⟩ = some (.int .i64 t367) ∧ w'.cell? ⟨gb374,1,none⟩ = some (.slice Ao11 t368.length co11) ∧ w'.cell? ⟨gb374,2,none⟩ = some (.int .i64 t371) ∧ w'.cell? ad387 = some (.int .i64 (rd t382 0))) (ds := []) #[false,false,false,false,false,false,false,false,false,false,false,false,false,false,false,false,false,false,false,false,false,false,false,false,false] (by kernel_rfl) rfl rfl ⟨(blk_cell BK374.out 0).trans rfl,(blk_cell BK374.out 1).trans rfl,(blk_cell BK374.out 2).trans rfl,hx387_0⟩ (fun hHeld => ?_);refine with_tabW laws_FnCharges.tab13 laws_FnCharges.bits13 (fun HT_ HW_ => ?_)
               generalize w42.drew = w43 at HO_375001 HO384 BK374 HB hx387_0 hHeld ⊢
               refine pure_ (i:=0) (N:=some 94) (v:=?_) (a':=?_) #[true,false,false,false,false,false,false,false,false,false,false,false,false,false,false,false,false,false,false,false,false,false,false,false,false] rfl rfl (any_of HT_.out (by kernel_rfl)) (fun _ _ _ h => h) (Or.inl ⟨by rfl, ?_⟩) ?_ ?_
               rotate_left
               ·intro w'
                go_simp
                with_reducible rfl
               rotate_left
               ·simp only [Act.put,sA_,s0_,s1_,i64_w,i32_w]
                rfl
               refine pure_ (i:=1) (N:=some 95) (v:=?_) (a':=?_) #[true,true,false,false,false,false,false,false,false,false,false,false,false,false,false,false,false,false,false,false,false,false,false,false,false] rfl rfl (any_of HT_.out (by kernel_rfl)) (fun _ _ _ h => h) (Or.inl ⟨by rfl, ?_⟩) ?_ ?_
               rotate_left
               ·intro w'
                go_simp
                with_reducible rfl
               rotate_left
               ·simp only [Act.put,sA_,s0_,s1_,i64_w,i32_w]
                rfl
               refine pure_ (i:=2) (N:=some 96) (v:=?_) (a':=?_) #[true,true,true,false,false,false,false,false,false,false,false,false,false,false,false,false,false,false,false,false,false,false,false,false,false] rfl rfl (any_of HT_.out (by kernel_rfl)) (fun _ _ _ h => h) (Or.inl ⟨by rfl, ?_⟩) ?_ ?_
               rotate_left
               ·intro w'
                go_simp
                with_reducible rfl
               rotate_left
               ·simp only [Act.put,sA_,s0_,s1_,i64_w,i32_w]
                rfl
               refine pure_ (i:=3) (N:=some 97) (v:=?_) (a':=?_) #[true,true,true,true,false,false,false,false,false,false,false,false,false,false,false,false,false,false,false,false,false,false,false,false,false] rfl rfl (any_of HT_.out (by kernel_rfl)) (fun _ _ _ h => h) (Or.inl ⟨by rfl, ?_⟩) ?_ ?_
               rotate_left
               ·intro w'
                go_simp
                with_reducible rfl
               rotate_left
               ·simp only [Act.put,sA_,s0_,s1_,i64_w,i32_w]
                rfl
               refine pure_ (i:=5) (N:=some 99) (v:=?_) (a':=?_) #[true,true,true,true,false,true,false,false,false,false,false,false,false,false,false,false,false,false,false,false,false,false,false,false,false] rfl rfl (any_of HT_.out (by kernel_rfl)) (fun _ _ _ h => h) (Or.inl ⟨by rfl, ?_⟩) ?_ ?_
               rotate_left
               ·intro w'
                go_simp
                with_reducible rfl
               rotate_left
               ·simp only [Act.put,sA_,s0_,s1_,i64_w,i32_w]
                rfl
               refine one_ (i:=4) (N:=some 98) #[true,true,true,true,true,true,false,false,false,false,false,false,false,false,false,false,false,false,false,false,false,false,false,false,false] rfl rfl (one_of HT_.out (by kernel_rfl)) (by decide) (fun K hK => ?_)
               refine goes_ Try.func19 (by kernel_rfl) rfl #[.slice (some ad387) t382.length co44] (by rfl) rfl rfl (by (try simp only [List.map_toArray,List.map_cons,List.map_nil]);rfl) ?_
               with_reducible refine (laws_rSum.calls kj24 _ _ t382 t386 _ ?side1 ?side2 A32.out).mono ?_
               (case side1 => repeat (exact (Kd.R_reads' HO384.out).2.2))
               (case side2 => exact (Kd.R_reads' HO384.out).2.1)
               rintro e w' ⟨rfl,⟨nd,rfl⟩⟩
               refine ⟨_,rfl, ?_⟩
               refine hK.out _ _ ⟨(blk_cell BK374.out 0).trans rfl,(blk_cell BK374.out 1).trans rfl,(blk_cell BK374.out 2).trans rfl,hHeld.2.2.2⟩ (fun hHeld => ?_)
               clear hK K
               refine norm_ (a':=?_) ?_ ?_
               rotate_left
               ·show Act.put _ (some 98) _ = _
                simp only [Act.put,sA_,s0_,s1_,i64_w,i32_w]
                rfl
               refine pure_ (i:=6) (N:=some 100) (v:=?_) (a':=?_) #[true,true,true,true,true,true,true,false,false,false,false,false,false,false,false,false,false,false,false,false,false,false,false,false,false] rfl rfl (any_of HT_.out (by kernel_rfl)) (fun _ _ _ h => h) (Or.inl ⟨by rfl, ?_⟩) ?_ ?_
               rotate_left
               ·intro w'
                go_simp
                with_reducible rfl
               rotate_left
               ·simp only [Act.put,sA_,s0_,s1_,i64_w,i32_w]
                rfl
               refine pure_ (i:=7) (N:=some 101) (v:=?_) (a':=?_) #[true,true,true,true,true,true,true,true,false,false,false,false,false,false,false,false,false,false,false,false,false,false,false,false,false] rfl rfl (any_of HT_.out (by kernel_rfl)) (fun _ _ _ h => h) (Or.inl ⟨by rfl, ?_⟩) ?_ ?_
               rotate_left
               ·intro w'
                go_simp
                with_reducible rfl
               rotate_left
               ·simp only [Act.put,sA_,s0_,s1_,i64_w,i32_w]
                rfl
               refine pure_ (i:=8) (N:=some 102) (v:=?_) (a':=?_) #[true,true,true,true,true,true,true,true,true,false,false,false,false,false,false,false,false,false,false,false,false,false,false,false,false] rfl rfl (any_of HT_.out (by kernel_rfl)) (fun _ _ _ h => h) (Or.inl ⟨by rfl, ?_⟩) ?_ ?_
               rotate_left
               ·intro w'
                go_simp
                with_reducible rfl
               rotate_left
               ·simp only [Act.put,sA_,s0_,s1_,i64_w,i32_w]
                rfl
               refine pure_ (i:=9) (N:=some 103) (v:=?_) (a':=?_) #[true,true,true,true,true,true,true,true,true,true,false,false,false,false,false,false,false,false,false,false,false,false,false,false,false] rfl rfl (any_of HT_.out (by kernel_rfl)) (fun _ _ _ h => h) (Or.inl ⟨by rfl, ?_⟩) ?_ ?_
               rotate_left
               ·intro w'
                go_simp
                with_reducible rfl
               rotate_left
               ·simp only [Act.put,sA_,s0_,s1_,i64_w,i32_w]
                rfl
               refine pure_ (i:=10) (N:=some 104) (v:=?_) (a':=?_) #[true,true,true,true,true,true,true,true,true,true,true,false,false,false,false,false,false,false,false,false,false,false,false,false,false] rfl rfl (any_of HT_.out (by kernel_rfl)) (fun _ _ _ h => h) (Or.inl ⟨by rfl, ?_⟩) ?_ ?_
               rotate_left
               ·intro w'
                go_simp
                with_reducible rfl
               rotate_left
               ·simp only [Act.put,sA_,s0_,s1_,i64_w,i32_w]
                rfl
               refine pure_ (i:=11) (N:=some 105) (v:=?_) (a':=?_) #[true,true,true,true,true,true,true,true,true,true,true,true,false,false,false,false,false,false,false,false,false,false,false,false,false] rfl rfl (any_of HT_.out (by kernel_rfl)) (fun _ _ _ h => h) (Or.inl ⟨by rfl, ?_⟩) ?_ ?_
               rotate_left
               ·intro w'
                go_simp
                with_reducible rfl
               rotate_left
               ·simp only [Act.put,sA_,s0_,s1_,i64_w,i32_w]
                rfl
               refine take_ (i:=12) (N:=some 106) (v:=?_) (a':=?_) #[true,true,true,true,true,true,true,true,true,true,true,true,true,false,false,false,false,false,false,false,false,false,false,false,false] rfl rfl (take_ofW HT_.out HW_.out (by kernel_rfl)) (fun _ _ _ h => h) (Or.inl ⟨by rfl, ?_⟩) hHeld ?_ ?_
               rotate_left
               ·rintro w' ⟨s0,s1,s2,s3⟩
                go_simp
                with_reducible rfl
               rotate_left
               ·simp only [Act.put,sA_,s0_,s1_,i64_w,i32_w]
                rfl
               refine pure_ (i:=13) (N:=some 107) (v:=?_) (a':=?_) #[true,true,true,true,true,true,true,true,true,true,true,true,true,true,false,false,false,false,false,false,false,false,false,false,false] rfl rfl (any_of HT_.out (by kernel_rfl)) (fun _ _ _ h => h) (Or.inl ⟨by rfl, ?_⟩) ?_ ?_
               rotate_left
               ·intro w'
                go_simp
                with_reducible rfl
               rotate_left
               ·simp only [Act.put,sA_,s0_,s1_,i64_w,i32_w]
                rfl
               refine pure_ (i:=14) (N:=some 108) (v:=?_) (a':=?_) #[true,true,true,true,true,true,true,true,true,true,true,true,true,true,true,false,false,false,false,false,false,false,false,false,false] rfl rfl (any_of HT_.out (by kernel_rfl)) (fun _ _ _ h => h) (Or.inl ⟨by rfl, ?_⟩) ?_ ?_
               rotate_left
               ·intro w'
                go_simp
                with_reducible rfl
               rotate_left
               ·simp only [Act.put,sA_,s0_,s1_,i64_w,i32_w]
                rfl
               refine pure_ (i:=15) (N:=some 109) (v:=?_) (a':=?_) #[true,true,true,true,true,true,true,true,true,true,true,true,true,true,true,true,false,false,false,false,false,false,false,false,false] rfl rfl (any_of HT_.out (by kernel_rfl)) (fun _ _ _ h => h) (Or.inl ⟨by rfl, ?_⟩) ?_ ?_
               rotate_left
               ·intro w'
                go_simp
                with_reducible rfl
               rotate_left
               ·simp only [Act.put,sA_,s0_,s1_,i64_w,i32_w]
                rfl
               refine pure_ (i:=16) (N:=some 110) (v:=?_) (a':=?_) #[true,true,true,true,true,true,true,true,true,true,true,true,true,true,true,true,true,false,false,false,false,false,false,false,false] rfl rfl (any_of HT_.out (by kernel_rfl)) (fun _ _ _ h => h) (Or.inl ⟨by rfl, ?_⟩) ?_ ?_
               rotate_left
               ·intro w'
                go_simp
                with_reducible rfl
               rotate_left
               ·simp only [Act.put,sA_,s0_,s1_,i64_w,i32_w]
                rfl
               refine pure_ (i:=17) (N:=some 111) (v:=?_) (a':=?_) #[true,true,true,true,true,true,true,true,true,true,true,true,true,true,true,true,true,true,false,false,false,false,false,false,false] rfl rfl (any_of HT_.out (by kernel_rfl)) (fun _ _ _ h => h) (Or.inl ⟨by rfl, ?_⟩) ?_ ?_
               rotate_left
               ·intro w'
                go_simp
                with_reducible rfl
               rotate_left
               ·simp only [Act.put,sA_,s0_,s1_,i64_w,i32_w]
                rfl
               refine pure_ (i:=18) (N:=some 112) (v:=?_) (a':=?_) #[true,true,true,true,true,true,true,true,true,true,true,true,true,true,true,true,true,true,true,false,false,false,false,false,false] rfl rfl (any_of HT_.out (by kernel_rfl)) (fun _ _ _ h => h) (Or.inl ⟨by rfl, ?_⟩) ?_ ?_
               rotate_left
               ·intro w'
                go_simp
                with_reducible rfl
               rotate_left
               ·simp only [Act.put,sA_,s0_,s1_,i64_w,i32_w]
                rfl
               refine pure_ (i:=19) (N:=some 113) (v:=?_) (a':=?_) #[true,true,true,true,true,true,true,true,true,true,true,true,true,true,true,true,true,true,true,true,false,false,false,false,false] rfl rfl (any_of HT_.out (by kernel_rfl)) (fun _ _ _ h => h) (Or.inl ⟨by rfl, ?_⟩) ?_ ?_
               rotate_left
               ·intro w'
                go_simp
                with_reducible rfl
               rotate_left
               ·simp only [Act.put,sA_,s0_,s1_,i64_w,i32_w]
                rfl
               refine pure_ (i:=21) (N:=some 115) (v:=?_) (a':=?_) #[true,true,true,true,true,true,true,true,true,true,true,true,true,true,true,true,true,true,true,true,false,true,false,false,false] rfl rfl (any_of HT_.out (by kernel_rfl)) (fun _ _ _ h => h) (Or.inl ⟨by rfl, ?_⟩) ?_ ?_
               rotate_left
               ·intro w'
                go_simp
                with_reducible rfl
               rotate_left
               ·simp only [Act.put,sA_,s0_,s1_,i64_w,i32_w]
                rfl
               refine take_ (i:=20) (N:=some 114) (v:=?_) (a':=?_) #[true,true,true,true,true,true,true,true,true,true,true,true,true,true,true,true,true,true,true,true,true,true,false,false,false] rfl rfl (take_ofW HT_.out HW_.out (by kernel_rfl)) (fun _ _ _ h => h) (Or.inl ⟨by rfl, ?_⟩) hHeld ?_ ?_
               rotate_left
               ·rintro w' ⟨s0,s1,s2,s3⟩
                go_simp
                with_reducible rfl
               rotate_left
               ·simp only [Act.put,sA_,s0_,s1_,i64_w,i32_w]
                rfl
               refine take_ (i:=22) (N:=some 116) (v:=?_) (a':=?_) #[true,true,true,true,true,true,true,true,true,true,true,true,true,true,true,true,true,true,true,true,true,true,true,false,false] rfl rfl (take_ofW HT_.out HW_.out (by kernel_rfl)) (fun _ _ _ h => h) (Or.inl ⟨by rfl, ?_⟩) hHeld ?_ ?_
               rotate_left
               ·rintro w' ⟨s0,s1,s2,s3⟩
                go_simp
                with_reducible rfl
               rotate_left
               ·simp only [Act.put,sA_,s0_,s1_,i64_w,i32_w]
                rfl
               refine pure_ (i:=23) (N:=some 117) (v:=?_) (a':=?_) #[true,true,true,true,true,true,true,true,true,true,true,true,true,true,true,true,true,true,true,true,true,true,true,true,false] rfl rfl (any_of HT_.out (by kernel_rfl)) (fun _ _ _ h => h) (Or.inl ⟨by rfl, ?_⟩) ?_ ?_
               rotate_left
               ·intro w'
                go_simp
                with_reducible rfl
               rotate_left
               ·simp only [Act.put,sA_,s0_,s1_,i64_w,i32_w]
                rfl
               refine pure_ (i:=24) (N:=some 118) (v:=?_) (a':=?_) #[true,true,true,true,true,true,true,true,true,true,true,true,true,true,true,true,true,true,true,true,true,true,true,true,true] rfl rfl (any_of HT_.out (by kernel_rfl)) (fun _ _ _ h => h) (Or.inl ⟨by rfl, ?_⟩) ?_ ?_
               rotate_left
               ·intro w'
                go_simp
                with_reducible rfl
               rotate_left
               ·simp only [Act.put,sA_,s0_,s1_,i64_w,i32_w]
                rfl
               refine done_ (done_of HT_.out (by kernel_rfl)) ?_
               try go_wp2
               go_meet
               case rel => exact ⟨_,H',⟨by have:=HJ6.out;have:=HJ24.out;omega⟩,⟨by (with_reducible repeat (apply Kd.R_drewN));exact HO_375001.out⟩,⟨by (with_reducible repeat (refine blk_drewN ?_ _));exact BK374.out⟩,⟨by repeat ((with_reducible first | exact HB.out | apply pw_below_drewN))⟩⟩
             ·rw [if_neg c35] at H
              exact absurd H (by simp)
            ·rw [if_neg c34] at H
             have c34b0 : ((t382.length : Int) == (wrap64 ((t368.length : Int) + 1))) = false:=beq_eq_false_iff_ne.mpr c34
             have c34b1 : ((t382.length : Int) != (wrap64 ((t368.length : Int) + 1))) = true:=bne_iff_ne.mpr c34
             obtain rfl:=Option.some.inj H
             have hcz45_0 : wc.cell? ⟨gb374,0,none⟩ = some (.int .i64 t367):=(blk_cell BK374.out 0).trans rfl
             have hcz45_1 : wc.cell? ⟨gb374,1,none⟩ = some (.slice Ao11 t368.length co11):=(blk_cell BK374.out 1).trans rfl
             have hcz45_2 : wc.cell? ⟨gb374,2,none⟩ = some (.int .i64 t371):=(blk_cell BK374.out 2).trans rfl
             have hfz45_0:=blk_frozen BK374.out 0
             have hfz45_1:=blk_frozen BK374.out 1
             have hfz45_2:=blk_frozen BK374.out 2
             try go_wp2_with (((with_reducible refine gate_callee (f:=18) rfl ?_);refine goesL_ (some 91) rfl rfl Try.func18 (by kernel_rfl) rfl #[.agg #[.int .i64 t367, .slice Ao11 t368.length co11, .int .i64 t371], .int .i64 t373] rfl (by (try simp only [List.map_toArray,List.map_cons,List.map_nil]);rfl) ?_;(with_reducible refine (impl_SplitStay.calls kj24 t367 _ _ t368 t371 t373 t382 true _ ?side1 ?side2 A30.out).mono ?_);(case side1 => repeat (exact (Kd.R_reads' HO_375001.out).2.2));(case side2 => exact (Kd.R_reads' HO_375001.out).2.1);rintro e w46 ⟨v383,rfl,ho0,hb⟩;refine ⟨_,rfl, ?_⟩;have n0_:=Aside0.mk (Kd.R_below (by exact HO_375001.out) hb);have n1_:=Aside0.mk (Kd.R_lower ho0 (below_size (by exact HB.out)));have n2_:=Aside0.mk (blk_below (g:=gb374) (o := .cells #[.int .i64 t367, .slice Ao11 t368.length co11, .int .i64 t371] 38 (0,0)) (by exact BK374.out) hb);have n3_:=Aside0.mk (below_step (by exact HB.out) hb);clear HO_375001;clear BK374;clear HB;have HO_375001:=n0_;have HO384:=n1_;have BK374:=n2_;have HB:=n3_;clear n0_ n1_ n2_ n3_;(try clear hb);(try clear ho0)))
             have n0_:=Aside0.mk (Kd.R_drew HO_375001.out)
             have n1_:=Aside0.mk (Kd.R_drew HO384.out)
             have n2_:=Aside0.mk (blk_drew BK374.out)
             have n3_:=Aside0.mk (below_drew1 HB.out)
             clear HO_375001
             clear HO384
             clear BK374
             clear HB
             have HO_375001:=n0_
             have HO384:=n1_
             have BK374:=n2_
             have HB:=n3_
             clear n0_ n1_ n2_ n3_
             obtain ⟨Ao48,co48,eo48⟩ := Kd.R_slice HO384.out
             (subst eo48)
             refine start_ (n:=25) (S:=fun w' => w'.cell? ⟨gb374,0,none⟩ = some (.int .i64 t367) ∧ w'.cell? ⟨gb374,1,none⟩ = some (.slice Ao11 t368.length co11) ∧ w'.cell? ⟨gb374,2,none⟩ = some (.int .i64 t371)) (ds := []) #[false,false,false,false,false,false,false,false,false,false,false,false,false,false,false,false,false,false,false,false,false,false,false,false,false] (by kernel_rfl) rfl rfl ⟨(blk_cell BK374.out 0).trans rfl,(blk_cell BK374.out 1).trans rfl,(blk_cell BK374.out 2).trans rfl⟩ (fun hHeld => ?_);refine with_tabW laws_FnCharges.tab13 laws_FnCharges.bits13 (fun HT_ HW_ => ?_)
             generalize w46.drew = w47 at HO_375001 HO384 BK374 HB hHeld ⊢
             refine pure_ (i:=0) (N:=some 94) (v:=?_) (a':=?_) #[true,false,false,false,false,false,false,false,false,false,false,false,false,false,false,false,false,false,false,false,false,false,false,false,false] rfl rfl (any_of HT_.out (by kernel_rfl)) (fun _ _ _ h => h) (Or.inl ⟨by rfl, ?_⟩) ?_ ?_
             rotate_left
             ·intro w'
              go_simp
              with_reducible rfl
             rotate_left
             ·simp only [Act.put,sA_,s0_,s1_,i64_w,i32_w]
              rfl
             refine pure_ (i:=1) (N:=some 95) (v:=?_) (a':=?_) #[true,true,false,false,false,false,false,false,false,false,false,false,false,false,false,false,false,false,false,false,false,false,false,false,false] rfl rfl (any_of HT_.out (by kernel_rfl)) (fun _ _ _ h => h) (Or.inl ⟨by rfl, ?_⟩) ?_ ?_
             rotate_left
             ·intro w'
              go_simp
              with_reducible rfl
             rotate_left
             ·simp only [Act.put,sA_,s0_,s1_,i64_w,i32_w]
              rfl
             refine pure_ (i:=2) (N:=some 96) (v:=?_) (a':=?_) #[true,true,true,false,false,false,false,false,false,false,false,false,false,false,false,false,false,false,false,false,false,false,false,false,false] rfl rfl (any_of HT_.out (by kernel_rfl)) (fun _ _ _ h => h) (Or.inl ⟨by rfl, ?_⟩) ?_ ?_
             rotate_left
             ·intro w'
              go_simp
              with_reducible rfl
             rotate_left
             ·simp only [Act.put,sA_,s0_,s1_,i64_w,i32_w]
              rfl
             refine pure_ (i:=3) (N:=some 97) (v:=?_) (a':=?_) #[true,true,true,true,false,false,false,false,false,false,false,false,false,false,false,false,false,false,false,false,false,false,false,false,false] rfl rfl (any_of HT_.out (by kernel_rfl)) (fun _ _ _ h => h) (Or.inl ⟨by rfl, ?_⟩) ?_ ?_
             rotate_left
             ·intro w'
              go_simp
              with_reducible rfl
             rotate_left
             ·simp only [Act.put,sA_,s0_,s1_,i64_w,i32_w]
              rfl
             refine pure_ (i:=5) (N:=some 99) (v:=?_) (a':=?_) #[true,true,true,true,false,true,false,false,false,false,false,false,false,false,false,false,false,false,false,false,false,false,false,false,false] rfl rfl (any_of HT_.out (by kernel_rfl)) (fun _ _ _ h => h) (Or.inl ⟨by rfl, ?_⟩) ?_ ?_
             rotate_left
             ·intro w'
              go_simp
              with_reducible rfl
             rotate_left
             ·simp only [Act.put,sA_,s0_,s1_,i64_w,i32_w]
              rfl
             refine one_ (i:=4) (N:=some 98) #[true,true,true,true,true,true,false,false,false,false,false,false,false,false,false,false,false,false,false,false,false,false,false,false,false] rfl rfl (one_of HT_.out (by kernel_rfl)) (by decide) (fun K hK => ?_)
             refine goes_ Try.func19 (by kernel_rfl) rfl #[.slice Ao48 t382.length co48] (by rfl) rfl rfl (by (try simp only [List.map_toArray,List.map_cons,List.map_nil]);rfl) ?_
             with_reducible refine (laws_rSum.calls kj24 _ _ t382 t386 _ ?side1 ?side2 A32.out).mono ?_
             (case side1 => repeat (exact (Kd.R_reads' HO384.out).2.2))
             (case side2 => exact (Kd.R_reads' HO384.out).2.1)
             rintro e w' ⟨rfl,⟨nd,rfl⟩⟩
             refine ⟨_,rfl, ?_⟩
             refine hK.out _ _ ⟨(blk_cell BK374.out 0).trans rfl,(blk_cell BK374.out 1).trans rfl,(blk_cell BK374.out 2).trans rfl⟩ (fun hHeld => ?_)
             clear hK K
             refine norm_ (a':=?_) ?_ ?_
             rotate_left
             ·show Act.put _ (some 98) _ = _
              simp only [Act.put,sA_,s0_,s1_,i64_w,i32_w]
              rfl
             refine pure_ (i:=6) (N:=some 100) (v:=?_) (a':=?_) #[true,true,true,true,true,true,true,false,false,false,false,false,false,false,false,false,false,false,false,false,false,false,false,false,false] rfl rfl (any_of HT_.out (by kernel_rfl)) (fun _ _ _ h => h) (Or.inl ⟨by rfl, ?_⟩) ?_ ?_
             rotate_left
             ·intro w'
              go_simp
              with_reducible rfl
             rotate_left
             ·simp only [Act.put,sA_,s0_,s1_,i64_w,i32_w]
              rfl
             refine pure_ (i:=7) (N:=some 101) (v:=?_) (a':=?_) #[true,true,true,true,true,true,true,true,false,false,false,false,false,false,false,false,false,false,false,false,false,false,false,false,false] rfl rfl (any_of HT_.out (by kernel_rfl)) (fun _ _ _ h => h) (Or.inl ⟨by rfl, ?_⟩) ?_ ?_
             rotate_left
             ·intro w'
              go_simp
              with_reducible rfl
             rotate_left
             ·simp only [Act.put,sA_,s0_,s1_,i64_w,i32_w]
              rfl
             refine pure_ (i:=8) (N:=some 102) (v:=?_) (a':=?_) #[true,true,true,true,true,true,true,true,true,false,false,false,false,false,false,false,false,false,false,false,false,false,false,false,false] rfl rfl (any_of HT_.out (by kernel_rfl)) (fun _ _ _ h => h) (Or.inl ⟨by rfl, ?_⟩) ?_ ?_
             rotate_left
             ·intro w'
              go_simp
              with_reducible rfl
             rotate_left
             ·simp only [Act.put,sA_,s0_,s1_,i64_w,i32_w]
              rfl
             refine pure_ (i:=9) (N:=some 103) (v:=?_) (a':=?_) #[true,true,true,true,true,true,true,true,true,true,false,false,false,false,false,false,false,false,false,false,false,false,false,false,false] rfl rfl (any_of HT_.out (by kernel_rfl)) (fun _ _ _ h => h) (Or.inl ⟨by rfl, ?_⟩) ?_ ?_
             rotate_left
             ·intro w'
              go_simp
              with_reducible rfl
             rotate_left
             ·simp only [Act.put,sA_,s0_,s1_,i64_w,i32_w]
              rfl
             refine pure_ (i:=10) (N:=some 104) (v:=?_) (a':=?_) #[true,true,true,true,true,true,true,true,true,true,true,false,false,false,false,false,false,false,false,false,false,false,false,false,false] rfl rfl (any_of HT_.out (by kernel_rfl)) (fun _ _ _ h => h) (Or.inl ⟨by rfl, ?_⟩) ?_ ?_
             rotate_left
             ·intro w'
              go_simp
              with_reducible rfl
             rotate_left
             ·simp only [Act.put,sA_,s0_,s1_,i64_w,i32_w]
              rfl
             refine pure_ (i:=11) (N:=some 105) (v:=?_) (a':=?_) #[true,true,true,true,true,true,true,true,true,true,true,true,false,false,false,false,false,false,false,false,false,false,false,false,false] rfl rfl (any_of HT_.out (by kernel_rfl)) (fun _ _ _ h => h) (Or.inl ⟨by rfl, ?_⟩) ?_ ?_
             rotate_left
             ·intro w'
              go_simp
              with_reducible rfl
             rotate_left
             ·simp only [Act.put,sA_,s0_,s1_,i64_w,i32_w]
              rfl
             refine take_ (i:=12) (N:=some 106) (v:=?_) (a':=?_) #[true,true,true,true,true,true,true,true,true,true,true,true,true,false,false,false,false,false,false,false,false,false,false,false,false] rfl rfl (take_ofW HT_.out HW_.out (by kernel_rfl)) (fun _ _ _ h => h) (Or.inl ⟨by rfl, ?_⟩) hHeld ?_ ?_
             rotate_left
             ·rintro w' ⟨s0,s1,s2⟩
              go_simp
              with_reducible rfl
             rotate_left
             ·simp only [Act.put,sA_,s0_,s1_,i64_w,i32_w]
              rfl
             refine pure_ (i:=13) (N:=some 107) (v:=?_) (a':=?_) #[true,true,true,true,true,true,true,true,true,true,true,true,true,true,false,false,false,false,false,false,false,false,false,false,false] rfl rfl (any_of HT_.out (by kernel_rfl)) (fun _ _ _ h => h) (Or.inl ⟨by rfl, ?_⟩) ?_ ?_
             rotate_left
             ·intro w'
              go_simp
              with_reducible rfl
             rotate_left
             ·simp only [Act.put,sA_,s0_,s1_,i64_w,i32_w]
              rfl
             refine pure_ (i:=14) (N:=some 108) (v:=?_) (a':=?_) #[true,true,true,true,true,true,true,true,true,true,true,true,true,true,true,false,false,false,false,false,false,false,false,false,false] rfl rfl (any_of HT_.out (by kernel_rfl)) (fun _ _ _ h => h) (Or.inl ⟨by rfl, ?_⟩) ?_ ?_
             rotate_left
             ·intro w'
              go_simp
              with_reducible rfl
             rotate_left
             ·simp only [Act.put,sA_,s0_,s1_,i64_w,i32_w]
              rfl
             refine pure_ (i:=15) (N:=some 109) (v:=?_) (a':=?_) #[true,true,true,true,true,true,true,true,true,true,true,true,true,true,true,true,false,false,false,false,false,false,false,false,false] rfl rfl (any_of HT_.out (by kernel_rfl)) (fun _ _ _ h => h) (Or.inl ⟨by rfl, ?_⟩) ?_ ?_
             rotate_left
             ·intro w'
              go_simp
              with_reducible rfl
             rotate_left
             ·simp only [Act.put,sA_,s0_,s1_,i64_w,i32_w]
              rfl
             refine pure_ (i:=16) (N:=some 110) (v:=?_) (a':=?_) #[true,true,true,true,true,true,true,true,true,true,true,true,true,true,true,true,true,false,false,false,false,false,false,false,false] rfl rfl (any_of HT_.out (by kernel_rfl)) (fun _ _ _ h => h) (Or.inl ⟨by rfl, ?_⟩) ?_ ?_
             rotate_left
             ·intro w'
              go_simp
              with_reducible rfl
             rotate_left
             ·simp only [Act.put,sA_,s0_,s1_,i64_w,i32_w]
              rfl
             refine pure_ (i:=17) (N:=some 111) (v:=?_) (a':=?_) #[true,true,true,true,true,true,true,true,true,true,true,true,true,true,true,true,true,true,false,false,false,false,false,false,false] rfl rfl (any_of HT_.out (by kernel_rfl)) (fun _ _ _ h => h) (Or.inl ⟨by rfl, ?_⟩) ?_ ?_
             rotate_left
             ·intro w'
              go_simp
              with_reducible rfl
             rotate_left
             ·simp only [Act.put,sA_,s0_,s1_,i64_w,i32_w]
              rfl
             refine pure_ (i:=18) (N:=some 112) (v:=undef) (a':=?_) #[true,true,true,true,true,true,true,true,true,true,true,true,true,true,true,true,true,true,true,false,false,false,false,false,false] rfl rfl (any_of HT_.out (by kernel_rfl)) (fun _ _ _ h => h) (Or.inr ⟨by rfl,rfl⟩) ?_ ?_
             rotate_left
             ·simp only [Act.put,sA_,s0_,s1_,i64_w,i32_w]
              rfl
             refine pure_ (i:=19) (N:=some 113) (v:=undef) (a':=?_) #[true,true,true,true,true,true,true,true,true,true,true,true,true,true,true,true,true,true,true,true,false,false,false,false,false] rfl rfl (any_of HT_.out (by kernel_rfl)) (fun _ _ _ h => h) (Or.inr ⟨by rfl,rfl⟩) ?_ ?_
             rotate_left
             ·simp only [Act.put,sA_,s0_,s1_,i64_w,i32_w]
              rfl
             refine pure_ (i:=20) (N:=some 114) (v:=undef) (a':=?_) #[true,true,true,true,true,true,true,true,true,true,true,true,true,true,true,true,true,true,true,true,true,false,false,false,false] rfl rfl (any_of HT_.out (by kernel_rfl)) (fun _ _ _ h => h) (Or.inr ⟨by rfl,rfl⟩) ?_ ?_
             rotate_left
             ·simp only [Act.put,sA_,s0_,s1_,i64_w,i32_w]
              rfl
             refine pure_ (i:=21) (N:=some 115) (v:=undef) (a':=?_) #[true,true,true,true,true,true,true,true,true,true,true,true,true,true,true,true,true,true,true,true,true,true,false,false,false] rfl rfl (any_of HT_.out (by kernel_rfl)) (fun _ _ _ h => h) (Or.inr ⟨by rfl,rfl⟩) ?_ ?_
             rotate_left
             ·simp only [Act.put,sA_,s0_,s1_,i64_w,i32_w]
              rfl
             refine pure_ (i:=22) (N:=some 116) (v:=undef) (a':=?_) #[true,true,true,true,true,true,true,true,true,true,true,true,true,true,true,true,true,true,true,true,true,true,true,false,false] rfl rfl (any_of HT_.out (by kernel_rfl)) (fun _ _ _ h => h) (Or.inr ⟨by rfl,rfl⟩) ?_ ?_
             rotate_left
             ·simp only [Act.put,sA_,s0_,s1_,i64_w,i32_w]
              rfl
             refine pure_ (i:=23) (N:=some 117) (v:=undef) (a':=?_) #[true,true,true,true,true,true,true,true,true,true,true,true,true,true,true,true,true,true,true,true,true,true,true,true,false] rfl rfl (any_of HT_.out (by kernel_rfl)) (fun _ _ _ h => h) (Or.inr ⟨by rfl,rfl⟩) ?_ ?_
             rotate_left
             ·simp only [Act.put,sA_,s0_,s1_,i64_w,i32_w]
              rfl
             refine pure_ (i:=24) (N:=some 118) (v:=?_) (a':=?_) #[true,true,true,true,true,true,true,true,true,true,true,true,true,true,true,true,true,true,true,true,true,true,true,true,true] rfl rfl (any_of HT_.out (by kernel_rfl)) (fun _ _ _ h => h) (Or.inl ⟨by rfl, ?_⟩) ?_ ?_
             rotate_left
             ·intro w'
              go_simp
              with_reducible rfl
             rotate_left
             ·simp only [Act.put,sA_,s0_,s1_,i64_w,i32_w]
              rfl
             refine done_ (done_of HT_.out (by kernel_rfl)) ?_
             try go_wp2
             go_ret
             exact ⟨by rfl,by repeat ((with_reducible first | exact HB.out | apply pw_below_drewN))⟩
           ·rw [if_neg c33] at H
            have c33b0 : (t386 == t373) = false:=beq_eq_false_iff_ne.mpr c33
            have c33b1 : (t386 != t373) = true:=bne_iff_ne.mpr c33
            obtain rfl:=Option.some.inj H
            have hcz49_0 : wc.cell? ⟨gb374,0,none⟩ = some (.int .i64 t367):=(blk_cell BK374.out 0).trans rfl
            have hcz49_1 : wc.cell? ⟨gb374,1,none⟩ = some (.slice Ao11 t368.length co11):=(blk_cell BK374.out 1).trans rfl
            have hcz49_2 : wc.cell? ⟨gb374,2,none⟩ = some (.int .i64 t371):=(blk_cell BK374.out 2).trans rfl
            have hfz49_0:=blk_frozen BK374.out 0
            have hfz49_1:=blk_frozen BK374.out 1
            have hfz49_2:=blk_frozen BK374.out 2
            try go_wp2_with (((with_reducible refine gate_callee (f:=18) rfl ?_);refine goesL_ (some 91) rfl rfl Try.func18 (by kernel_rfl) rfl #[.agg #[.int .i64 t367, .slice Ao11 t368.length co11, .int .i64 t371], .int .i64 t373] rfl (by (try simp only [List.map_toArray,List.map_cons,List.map_nil]);rfl) ?_;(with_reducible refine (impl_SplitStay.calls kj24 t367 _ _ t368 t371 t373 t382 true _ ?side1 ?side2 A30.out).mono ?_);(case side1 => repeat (exact (Kd.R_reads' HO_375001.out).2.2));(case side2 => exact (Kd.R_reads' HO_375001.out).2.1);rintro e w50 ⟨v383,rfl,ho0,hb⟩;refine ⟨_,rfl, ?_⟩;have n0_:=Aside0.mk (Kd.R_below (by exact HO_375001.out) hb);have n1_:=Aside0.mk (Kd.R_lower ho0 (below_size (by exact HB.out)));have n2_:=Aside0.mk (blk_below (g:=gb374) (o := .cells #[.int .i64 t367, .slice Ao11 t368.length co11, .int .i64 t371] 38 (0,0)) (by exact BK374.out) hb);have n3_:=Aside0.mk (below_step (by exact HB.out) hb);clear HO_375001;clear BK374;clear HB;have HO_375001:=n0_;have HO384:=n1_;have BK374:=n2_;have HB:=n3_;clear n0_ n1_ n2_ n3_;(try clear hb);(try clear ho0)))
            have n0_:=Aside0.mk (Kd.R_drew HO_375001.out)
            have n1_:=Aside0.mk (Kd.R_drew HO384.out)
            have n2_:=Aside0.mk (blk_drew BK374.out)
            have n3_:=Aside0.mk (below_drew1 HB.out)
            clear HO_375001
            clear HO384
            clear BK374
            clear HB
            have HO_375001:=n0_
            have HO384:=n1_
            have BK374:=n2_
            have HB:=n3_
            clear n0_ n1_ n2_ n3_
            obtain ⟨Ao52,co52,eo52⟩ := Kd.R_slice HO384.out
            (subst eo52)
            refine start_ (n:=25) (S:=fun w' => True) (ds := []) #[false,false,false,false,false,false,false,false,false,false,false,false,false,false,false,false,false,false,false,false,false,false,false,false,false] (by kernel_rfl) rfl rfl trivial (fun hHeld => ?_);refine with_tabW laws_FnCharges.tab13 laws_FnCharges.bits13 (fun HT_ HW_ => ?_)
            generalize w50.drew = w51 at HO_375001 HO384 BK374 HB hHeld ⊢
            refine pure_ (i:=0) (N:=some 94) (v:=?_) (a':=?_) #[true,false,false,false,false,false,false,false,false,false,false,false,false,false,false,false,false,false,false,false,false,false,false,false,false] rfl rfl (any_of HT_.out (by kernel_rfl)) (fun _ _ _ h => h) (Or.inl ⟨by rfl, ?_⟩) ?_ ?_
            rotate_left
            ·intro w'
             go_simp
             with_reducible rfl
            rotate_left
            ·simp only [Act.put,sA_,s0_,s1_,i64_w,i32_w]
             rfl
            refine pure_ (i:=1) (N:=some 95) (v:=?_) (a':=?_) #[true,true,false,false,false,false,false,false,false,false,false,false,false,false,false,false,false,false,false,false,false,false,false,false,false] rfl rfl (any_of HT_.out (by kernel_rfl)) (fun _ _ _ h => h) (Or.inl ⟨by rfl, ?_⟩) ?_ ?_
            rotate_left
            ·intro w'
             go_simp
             with_reducible rfl
            rotate_left
            ·simp only [Act.put,sA_,s0_,s1_,i64_w,i32_w]
             rfl
            refine pure_ (i:=2) (N:=some 96) (v:=?_) (a':=?_) #[true,true,true,false,false,false,false,false,false,false,false,false,false,false,false,false,false,false,false,false,false,false,false,false,false] rfl rfl (any_of HT_.out (by kernel_rfl)) (fun _ _ _ h => h) (Or.inl ⟨by rfl, ?_⟩) ?_ ?_
            rotate_left
            ·intro w'
             go_simp
             with_reducible rfl
            rotate_left
            ·simp only [Act.put,sA_,s0_,s1_,i64_w,i32_w]
             rfl
            refine pure_ (i:=3) (N:=some 97) (v:=?_) (a':=?_) #[true,true,true,true,false,false,false,false,false,false,false,false,false,false,false,false,false,false,false,false,false,false,false,false,false] rfl rfl (any_of HT_.out (by kernel_rfl)) (fun _ _ _ h => h) (Or.inl ⟨by rfl, ?_⟩) ?_ ?_
            rotate_left
            ·intro w'
             go_simp
             with_reducible rfl
            rotate_left
            ·simp only [Act.put,sA_,s0_,s1_,i64_w,i32_w]
             rfl
            refine pure_ (i:=5) (N:=some 99) (v:=?_) (a':=?_) #[true,true,true,true,false,true,false,false,false,false,false,false,false,false,false,false,false,false,false,false,false,false,false,false,false] rfl rfl (any_of HT_.out (by kernel_rfl)) (fun _ _ _ h => h) (Or.inl ⟨by rfl, ?_⟩) ?_ ?_
            rotate_left
            ·intro w'
             go_simp
             with_reducible rfl
            rotate_left
            ·simp only [Act.put,sA_,s0_,s1_,i64_w,i32_w]
             rfl
            refine one_ (i:=4) (N:=some 98) #[true,true,true,true,true,true,false,false,false,false,false,false,false,false,false,false,false,false,false,false,false,false,false,false,false] rfl rfl (one_of HT_.out (by kernel_rfl)) (by decide) (fun K hK => ?_)
            refine goes_ Try.func19 (by kernel_rfl) rfl #[.slice Ao52 t382.length co52] (by rfl) rfl rfl (by (try simp only [List.map_toArray,List.map_cons,List.map_nil]);rfl) ?_
            with_reducible refine (laws_rSum.calls kj24 _ _ t382 t386 _ ?side1 ?side2 A32.out).mono ?_
            (case side1 => repeat (exact (Kd.R_reads' HO384.out).2.2))
            (case side2 => exact (Kd.R_reads' HO384.out).2.1)
            rintro e w' ⟨rfl,⟨nd,rfl⟩⟩
            refine ⟨_,rfl, ?_⟩
            refine hK.out _ _ trivial (fun hHeld => ?_)
            clear hK K
            refine norm_ (a':=?_) ?_ ?_
            rotate_left
            ·show Act.put _ (some 98) _ = _
             simp only [Act.put,sA_,s0_,s1_,i64_w,i32_w]
             rfl
            refine pure_ (i:=6) (N:=some 100) (v:=?_) (a':=?_) #[true,true,true,true,true,true,true,false,false,false,false,false,false,false,false,false,false,false,false,false,false,false,false,false,false] rfl rfl (any_of HT_.out (by kernel_rfl)) (fun _ _ _ h => h) (Or.inl ⟨by rfl, ?_⟩) ?_ ?_
            rotate_left
            ·intro w'
             go_simp
             with_reducible rfl
            rotate_left
            ·simp only [Act.put,sA_,s0_,s1_,i64_w,i32_w]
             rfl
            refine pure_ (i:=7) (N:=some 101) (v:=?_) (a':=?_) #[true,true,true,true,true,true,true,true,false,false,false,false,false,false,false,false,false,false,false,false,false,false,false,false,false] rfl rfl (any_of HT_.out (by kernel_rfl)) (fun _ _ _ h => h) (Or.inl ⟨by rfl, ?_⟩) ?_ ?_
            rotate_left
            ·intro w'
             go_simp
             with_reducible rfl
            rotate_left
            ·simp only [Act.put,sA_,s0_,s1_,i64_w,i32_w]
             rfl
            refine pure_ (i:=8) (N:=some 102) (v:=?_) (a':=?_) #[true,true,true,true,true,true,true,true,true,false,false,false,false,false,false,false,false,false,false,false,false,false,false,false,false] rfl rfl (any_of HT_.out (by kernel_rfl)) (fun _ _ _ h => h) (Or.inl ⟨by rfl, ?_⟩) ?_ ?_
            rotate_left
            ·intro w'
             go_simp
             with_reducible rfl
            rotate_left
            ·simp only [Act.put,sA_,s0_,s1_,i64_w,i32_w]
             rfl
            refine pure_ (i:=9) (N:=some 103) (v:=undef) (a':=?_) #[true,true,true,true,true,true,true,true,true,true,false,false,false,false,false,false,false,false,false,false,false,false,false,false,false] rfl rfl (any_of HT_.out (by kernel_rfl)) (fun _ _ _ h => h) (Or.inr ⟨by rfl,rfl⟩) ?_ ?_
            rotate_left
            ·simp only [Act.put,sA_,s0_,s1_,i64_w,i32_w]
             rfl
            refine pure_ (i:=10) (N:=some 104) (v:=undef) (a':=?_) #[true,true,true,true,true,true,true,true,true,true,true,false,false,false,false,false,false,false,false,false,false,false,false,false,false] rfl rfl (any_of HT_.out (by kernel_rfl)) (fun _ _ _ h => h) (Or.inr ⟨by rfl,rfl⟩) ?_ ?_
            rotate_left
            ·simp only [Act.put,sA_,s0_,s1_,i64_w,i32_w]
             rfl
            refine pure_ (i:=11) (N:=some 105) (v:=undef) (a':=?_) #[true,true,true,true,true,true,true,true,true,true,true,true,false,false,false,false,false,false,false,false,false,false,false,false,false] rfl rfl (any_of HT_.out (by kernel_rfl)) (fun _ _ _ h => h) (Or.inr ⟨by rfl,rfl⟩) ?_ ?_
            rotate_left
            ·simp only [Act.put,sA_,s0_,s1_,i64_w,i32_w]
             rfl
            refine pure_ (i:=12) (N:=some 106) (v:=undef) (a':=?_) #[true,true,true,true,true,true,true,true,true,true,true,true,true,false,false,false,false,false,false,false,false,false,false,false,false] rfl rfl (any_of HT_.out (by kernel_rfl)) (fun _ _ _ h => h) (Or.inr ⟨by rfl,rfl⟩) ?_ ?_
            rotate_left
            ·simp only [Act.put,sA_,s0_,s1_,i64_w,i32_w]
             rfl
            refine pure_ (i:=13) (N:=some 107) (v:=undef) (a':=?_) #[true,true,true,true,true,true,true,true,true,true,true,true,true,true,false,false,false,false,false,false,false,false,false,false,false] rfl rfl (any_of HT_.out (by kernel_rfl)) (fun _ _ _ h => h) (Or.inr ⟨by rfl,rfl⟩) ?_ ?_
            rotate_left
            ·simp only [Act.put,sA_,s0_,s1_,i64_w,i32_w]
             rfl
            refine pure_ (i:=14) (N:=some 108) (v:=undef) (a':=?_) #[true,true,true,true,true,true,true,true,true,true,true,true,true,true,true,false,false,false,false,false,false,false,false,false,false] rfl rfl (any_of HT_.out (by kernel_rfl)) (fun _ _ _ h => h) (Or.inr ⟨by rfl,rfl⟩) ?_ ?_
            rotate_left
            ·simp only [Act.put,sA_,s0_,s1_,i64_w,i32_w]
             rfl
            refine pure_ (i:=15) (N:=some 109) (v:=undef) (a':=?_) #[true,true,true,true,true,true,true,true,true,true,true,true,true,true,true,true,false,false,false,false,false,false,false,false,false] rfl rfl (any_of HT_.out (by kernel_rfl)) (fun _ _ _ h => h) (Or.inr ⟨by rfl,rfl⟩) ?_ ?_
            rotate_left
            ·simp only [Act.put,sA_,s0_,s1_,i64_w,i32_w]
             rfl
            refine pure_ (i:=16) (N:=some 110) (v:=?_) (a':=?_) #[true,true,true,true,true,true,true,true,true,true,true,true,true,true,true,true,true,false,false,false,false,false,false,false,false] rfl rfl (any_of HT_.out (by kernel_rfl)) (fun _ _ _ h => h) (Or.inl ⟨by rfl, ?_⟩) ?_ ?_
            rotate_left
            ·intro w'
             go_simp
             with_reducible rfl
            rotate_left
            ·simp only [Act.put,sA_,s0_,s1_,i64_w,i32_w]
             rfl
            refine pure_ (i:=17) (N:=some 111) (v:=?_) (a':=?_) #[true,true,true,true,true,true,true,true,true,true,true,true,true,true,true,true,true,true,false,false,false,false,false,false,false] rfl rfl (any_of HT_.out (by kernel_rfl)) (fun _ _ _ h => h) (Or.inl ⟨by rfl, ?_⟩) ?_ ?_
            rotate_left
            ·intro w'
             go_simp
             with_reducible rfl
            rotate_left
            ·simp only [Act.put,sA_,s0_,s1_,i64_w,i32_w]
             rfl
            refine pure_ (i:=18) (N:=some 112) (v:=undef) (a':=?_) #[true,true,true,true,true,true,true,true,true,true,true,true,true,true,true,true,true,true,true,false,false,false,false,false,false] rfl rfl (any_of HT_.out (by kernel_rfl)) (fun _ _ _ h => h) (Or.inr ⟨by rfl,rfl⟩) ?_ ?_
            rotate_left
            ·simp only [Act.put,sA_,s0_,s1_,i64_w,i32_w]
             rfl
            refine pure_ (i:=19) (N:=some 113) (v:=undef) (a':=?_) #[true,true,true,true,true,true,true,true,true,true,true,true,true,true,true,true,true,true,true,true,false,false,false,false,false] rfl rfl (any_of HT_.out (by kernel_rfl)) (fun _ _ _ h => h) (Or.inr ⟨by rfl,rfl⟩) ?_ ?_
            rotate_left
            ·simp only [Act.put,sA_,s0_,s1_,i64_w,i32_w]
             rfl
            refine pure_ (i:=20) (N:=some 114) (v:=undef) (a':=?_) #[true,true,true,true,true,true,true,true,true,true,true,true,true,true,true,true,true,true,true,true,true,false,false,false,false] rfl rfl (any_of HT_.out (by kernel_rfl)) (fun _ _ _ h => h) (Or.inr ⟨by rfl,rfl⟩) ?_ ?_
            rotate_left
            ·simp only [Act.put,sA_,s0_,s1_,i64_w,i32_w]
             rfl
            refine pure_ (i:=21) (N:=some 115) (v:=undef) (a':=?_) #[true,true,true,true,true,true,true,true,true,true,true,true,true,true,true,true,true,true,true,true,true,true,false,false,false] rfl rfl (any_of HT_.out (by kernel_rfl)) (fun _ _ _ h => h) (Or.inr ⟨by rfl,rfl⟩) ?_ ?_
            rotate_left
            ·simp only [Act.put,sA_,s0_,s1_,i64_w,i32_w]
             rfl
            refine pure_ (i:=22) (N:=some 116) (v:=undef) (a':=?_) #[true,true,true,true,true,true,true,true,true,true,true,true,true,true,true,true,true,true,true,true,true,true,true,false,false] rfl rfl (any_of HT_.out (by kernel_rfl)) (fun _ _ _ h => h) (Or.inr ⟨by rfl,rfl⟩) ?_ ?_
            rotate_left
            ·simp only [Act.put,sA_,s0_,s1_,i64_w,i32_w]
             rfl
            refine pure_ (i:=23) (N:=some 117) (v:=undef) (a':=?_) #[true,true,true,true,true,true,true,true,true,true,true,true,true,true,true,true,true,true,true,true,true,true,true,true,false] rfl rfl (any_of HT_.out (by kernel_rfl)) (fun _ _ _ h => h) (Or.inr ⟨by rfl,rfl⟩) ?_ ?_
            rotate_left
            ·simp only [Act.put,sA_,s0_,s1_,i64_w,i32_w]
             rfl
            refine pure_ (i:=24) (N:=some 118) (v:=?_) (a':=?_) #[true,true,true,true,true,true,true,true,true,true,true,true,true,true,true,true,true,true,true,true,true,true,true,true,true] rfl rfl (any_of HT_.out (by kernel_rfl)) (fun _ _ _ h => h) (Or.inl ⟨by rfl, ?_⟩) ?_ ?_
            rotate_left
            ·intro w'
             go_simp
             with_reducible rfl
            rotate_left
            ·simp only [Act.put,sA_,s0_,s1_,i64_w,i32_w]
             rfl
            refine done_ (done_of HT_.out (by kernel_rfl)) ?_
            try go_wp2
            go_ret
            exact ⟨by rfl,by repeat ((with_reducible first | exact HB.out | apply pw_below_drewN))⟩
          ·replace c31:=Bool.eq_false_iff.mpr c31
           subst c31
           have H1 : (some false) = some r:=by rw [if_neg (show ¬ (false = true) by decide)] at H;exact H
           clear H
           have H:=H1
           clear H1
           obtain rfl:=Option.some.inj H
           have hcz53_0 : wc.cell? ⟨gb374,0,none⟩ = some (.int .i64 t367):=(blk_cell BK374.out 0).trans rfl
           have hcz53_1 : wc.cell? ⟨gb374,1,none⟩ = some (.slice Ao11 t368.length co11):=(blk_cell BK374.out 1).trans rfl
           have hcz53_2 : wc.cell? ⟨gb374,2,none⟩ = some (.int .i64 t371):=(blk_cell BK374.out 2).trans rfl
           have hfz53_0:=blk_frozen BK374.out 0
           have hfz53_1:=blk_frozen BK374.out 1
           have hfz53_2:=blk_frozen BK374.out 2
           try go_wp2_with (((with_reducible refine gate_callee (f:=18) rfl ?_);refine goesL_ (some 91) rfl rfl Try.func18 (by kernel_rfl) rfl #[.agg #[.int .i64 t367, .slice Ao11 t368.length co11, .int .i64 t371], .int .i64 t373] rfl (by (try simp only [List.map_toArray,List.map_cons,List.map_nil]);rfl) ?_;(with_reducible refine (impl_SplitStay.calls kj24 t367 _ _ t368 t371 t373 t382 false _ ?side1 ?side2 A30.out).mono ?_);(case side1 => repeat (exact (Kd.R_reads' HO_375001.out).2.2));(case side2 => exact (Kd.R_reads' HO_375001.out).2.1);rintro e w54 ⟨v383,rfl,ho0,hb⟩;refine ⟨_,rfl, ?_⟩;have n0_:=Aside0.mk (Kd.R_below (by exact HO_375001.out) hb);have n1_:=Aside0.mk (Kd.R_lower ho0 (below_size (by exact HB.out)));have n2_:=Aside0.mk (blk_below (g:=gb374) (o := .cells #[.int .i64 t367, .slice Ao11 t368.length co11, .int .i64 t371] 38 (0,0)) (by exact BK374.out) hb);have n3_:=Aside0.mk (below_step (by exact HB.out) hb);clear HO_375001;clear BK374;clear HB;have HO_375001:=n0_;have HO384:=n1_;have BK374:=n2_;have HB:=n3_;clear n0_ n1_ n2_ n3_;(try clear hb);(try clear ho0)))
           have n0_:=Aside0.mk (Kd.R_drew HO_375001.out)
           have n1_:=Aside0.mk (Kd.R_drew HO384.out)
           have n2_:=Aside0.mk (blk_drew BK374.out)
           have n3_:=Aside0.mk (below_drew1 HB.out)
           clear HO_375001
           clear HO384
           clear BK374
           clear HB
           have HO_375001:=n0_
           have HO384:=n1_
           have BK374:=n2_
           have HB:=n3_
           clear n0_ n1_ n2_ n3_
           refine start_ (n:=25) (S:=fun w' => True) (ds := []) #[false,false,false,false,false,false,false,false,false,false,false,false,false,false,false,false,false,false,false,false,false,false,false,false,false] (by kernel_rfl) rfl rfl trivial (fun hHeld => ?_);refine with_tabW laws_FnCharges.tab13 laws_FnCharges.bits13 (fun HT_ HW_ => ?_)
           generalize w54.drew = w55 at HO_375001 HO384 BK374 HB hHeld ⊢
           refine pure_ (i:=0) (N:=some 94) (v:=?_) (a':=?_) #[true,false,false,false,false,false,false,false,false,false,false,false,false,false,false,false,false,false,false,false,false,false,false,false,false] rfl rfl (any_of HT_.out (by kernel_rfl)) (fun _ _ _ h => h) (Or.inl ⟨by rfl, ?_⟩) ?_ ?_
           rotate_left
           ·intro w'
            go_simp
            with_reducible rfl
           rotate_left
           ·simp only [Act.put,sA_,s0_,s1_,i64_w,i32_w]
            rfl
           refine pure_ (i:=1) (N:=some 95) (v:=?_) (a':=?_) #[true,true,false,false,false,false,false,false,false,false,false,false,false,false,false,false,false,false,false,false,false,false,false,false,false] rfl rfl (any_of HT_.out (by kernel_rfl)) (fun _ _ _ h => h) (Or.inl ⟨by rfl, ?_⟩) ?_ ?_
           rotate_left
           ·intro w'
            go_simp
            with_reducible rfl
           rotate_left
           ·simp only [Act.put,sA_,s0_,s1_,i64_w,i32_w]
            rfl
           refine pure_ (i:=2) (N:=some 96) (v:=?_) (a':=?_) #[true,true,true,false,false,false,false,false,false,false,false,false,false,false,false,false,false,false,false,false,false,false,false,false,false] rfl rfl (any_of HT_.out (by kernel_rfl)) (fun _ _ _ h => h) (Or.inl ⟨by rfl, ?_⟩) ?_ ?_
           rotate_left
           ·intro w'
            go_simp
            with_reducible rfl
           rotate_left
           ·simp only [Act.put,sA_,s0_,s1_,i64_w,i32_w]
            rfl
           refine pure_ (i:=3) (N:=some 97) (v:=undef) (a':=?_) #[true,true,true,true,false,false,false,false,false,false,false,false,false,false,false,false,false,false,false,false,false,false,false,false,false] rfl rfl (any_of HT_.out (by kernel_rfl)) (fun _ _ _ h => h) (Or.inr ⟨by rfl,rfl⟩) ?_ ?_
           rotate_left
           ·simp only [Act.put,sA_,s0_,s1_,i64_w,i32_w]
            rfl
           refine pure_ (i:=4) (N:=some 98) (v:=undef) (a':=?_) #[true,true,true,true,true,false,false,false,false,false,false,false,false,false,false,false,false,false,false,false,false,false,false,false,false] rfl rfl (any_of HT_.out (by kernel_rfl)) (fun _ _ _ h => h) (Or.inr ⟨by rfl,rfl⟩) ?_ ?_
           rotate_left
           ·simp only [Act.put,sA_,s0_,s1_,i64_w,i32_w]
            rfl
           refine pure_ (i:=5) (N:=some 99) (v:=undef) (a':=?_) #[true,true,true,true,true,true,false,false,false,false,false,false,false,false,false,false,false,false,false,false,false,false,false,false,false] rfl rfl (any_of HT_.out (by kernel_rfl)) (fun _ _ _ h => h) (Or.inr ⟨by rfl,rfl⟩) ?_ ?_
           rotate_left
           ·simp only [Act.put,sA_,s0_,s1_,i64_w,i32_w]
            rfl
           refine pure_ (i:=6) (N:=some 100) (v:=undef) (a':=?_) #[true,true,true,true,true,true,true,false,false,false,false,false,false,false,false,false,false,false,false,false,false,false,false,false,false] rfl rfl (any_of HT_.out (by kernel_rfl)) (fun _ _ _ h => h) (Or.inr ⟨by rfl,rfl⟩) ?_ ?_
           rotate_left
           ·simp only [Act.put,sA_,s0_,s1_,i64_w,i32_w]
            rfl
           refine pure_ (i:=7) (N:=some 101) (v:=?_) (a':=?_) #[true,true,true,true,true,true,true,true,false,false,false,false,false,false,false,false,false,false,false,false,false,false,false,false,false] rfl rfl (any_of HT_.out (by kernel_rfl)) (fun _ _ _ h => h) (Or.inl ⟨by rfl, ?_⟩) ?_ ?_
           rotate_left
           ·intro w'
            go_simp
            with_reducible rfl
           rotate_left
           ·simp only [Act.put,sA_,s0_,s1_,i64_w,i32_w]
            rfl
           refine pure_ (i:=8) (N:=some 102) (v:=?_) (a':=?_) #[true,true,true,true,true,true,true,true,true,false,false,false,false,false,false,false,false,false,false,false,false,false,false,false,false] rfl rfl (any_of HT_.out (by kernel_rfl)) (fun _ _ _ h => h) (Or.inl ⟨by rfl, ?_⟩) ?_ ?_
           rotate_left
           ·intro w'
            go_simp
            with_reducible rfl
           rotate_left
           ·simp only [Act.put,sA_,s0_,s1_,i64_w,i32_w]
            rfl
           refine pure_ (i:=9) (N:=some 103) (v:=undef) (a':=?_) #[true,true,true,true,true,true,true,true,true,true,false,false,false,false,false,false,false,false,false,false,false,false,false,false,false] rfl rfl (any_of HT_.out (by kernel_rfl)) (fun _ _ _ h => h) (Or.inr ⟨by rfl,rfl⟩) ?_ ?_
           rotate_left
           ·simp only [Act.put,sA_,s0_,s1_,i64_w,i32_w]
            rfl
           refine pure_ (i:=10) (N:=some 104) (v:=undef) (a':=?_) #[true,true,true,true,true,true,true,true,true,true,true,false,false,false,false,false,false,false,false,false,false,false,false,false,false] rfl rfl (any_of HT_.out (by kernel_rfl)) (fun _ _ _ h => h) (Or.inr ⟨by rfl,rfl⟩) ?_ ?_
           rotate_left
           ·simp only [Act.put,sA_,s0_,s1_,i64_w,i32_w]
            rfl
           refine pure_ (i:=11) (N:=some 105) (v:=undef) (a':=?_) #[true,true,true,true,true,true,true,true,true,true,true,true,false,false,false,false,false,false,false,false,false,false,false,false,false] rfl rfl (any_of HT_.out (by kernel_rfl)) (fun _ _ _ h => h) (Or.inr ⟨by rfl,rfl⟩) ?_ ?_
           rotate_left
           ·simp only [Act.put,sA_,s0_,s1_,i64_w,i32_w]
            rfl
           refine pure_ (i:=12) (N:=some 106) (v:=undef) (a':=?_) #[true,true,true,true,true,true,true,true,true,true,true,true,true,false,false,false,false,false,false,false,false,false,false,false,false] rfl rfl (any_of HT_.out (by kernel_rfl)) (fun _ _ _ h => h) (Or.inr ⟨by rfl,rfl⟩) ?_ ?_
           rotate_left
           ·simp only [Act.put,sA_,s0_,s1_,i64_w,i32_w]
            rfl
           refine pure_ (i:=13) (N:=some 107) (v:=undef) (a':=?_) #[true,true,true,true,true,true,true,true,true,true,true,true,true,true,false,false,false,false,false,false,false,false,false,false,false] rfl rfl (any_of HT_.out (by kernel_rfl)) (fun _ _ _ h => h) (Or.inr ⟨by rfl,rfl⟩) ?_ ?_
           rotate_left
           ·simp only [Act.put,sA_,s0_,s1_,i64_w,i32_w]
            rfl
           refine pure_ (i:=14) (N:=some 108) (v:=undef) (a':=?_) #[true,true,true,true,true,true,true,true,true,true,true,true,true,true,true,false,false,false,false,false,false,false,false,false,false] rfl rfl (any_of HT_.out (by kernel_rfl)) (fun _ _ _ h => h) (Or.inr ⟨by rfl,rfl⟩) ?_ ?_
           rotate_left
           ·simp only [Act.put,sA_,s0_,s1_,i64_w,i32_w]
            rfl
           refine pure_ (i:=15) (N:=some 109) (v:=undef) (a':=?_) #[true,true,true,true,true,true,true,true,true,true,true,true,true,true,true,true,false,false,false,false,false,false,false,false,false] rfl rfl (any_of HT_.out (by kernel_rfl)) (fun _ _ _ h => h) (Or.inr ⟨by rfl,rfl⟩) ?_ ?_
           rotate_left
           ·simp only [Act.put,sA_,s0_,s1_,i64_w,i32_w]
            rfl
           refine pure_ (i:=16) (N:=some 110) (v:=?_) (a':=?_) #[true,true,true,true,true,true,true,true,true,true,true,true,true,true,true,true,true,false,false,false,false,false,false,false,false] rfl rfl (any_of HT_.out (by kernel_rfl)) (fun _ _ _ h => h) (Or.inl ⟨by rfl, ?_⟩) ?_ ?_
           rotate_left
           ·intro w'
            go_simp
            with_reducible rfl
           rotate_left
           ·simp only [Act.put,sA_,s0_,s1_,i64_w,i32_w]
            rfl
           refine pure_ (i:=17) (N:=some 111) (v:=?_) (a':=?_) #[true,true,true,true,true,true,true,true,true,true,true,true,true,true,true,true,true,true,false,false,false,false,false,false,false] rfl rfl (any_of HT_.out (by kernel_rfl)) (fun _ _ _ h => h) (Or.inl ⟨by rfl, ?_⟩) ?_ ?_
           rotate_left
           ·intro w'
            go_simp
            with_reducible rfl
           rotate_left
           ·simp only [Act.put,sA_,s0_,s1_,i64_w,i32_w]
            rfl
           refine pure_ (i:=18) (N:=some 112) (v:=undef) (a':=?_) #[true,true,true,true,true,true,true,true,true,true,true,true,true,true,true,true,true,true,true,false,false,false,false,false,false] rfl rfl (any_of HT_.out (by kernel_rfl)) (fun _ _ _ h => h) (Or.inr ⟨by rfl,rfl⟩) ?_ ?_
           rotate_left
           ·simp only [Act.put,sA_,s0_,s1_,i64_w,i32_w]
            rfl
           refine pure_ (i:=19) (N:=some 113) (v:=undef) (a':=?_) #[true,true,true,true,true,true,true,true,true,true,true,true,true,true,true,true,true,true,true,true,false,false,false,false,false] rfl rfl (any_of HT_.out (by kernel_rfl)) (fun _ _ _ h => h) (Or.inr ⟨by rfl,rfl⟩) ?_ ?_
           rotate_left
           ·simp only [Act.put,sA_,s0_,s1_,i64_w,i32_w]
            rfl
           refine pure_ (i:=20) (N:=some 114) (v:=undef) (a':=?_) #[true,true,true,true,true,true,true,true,true,true,true,true,true,true,true,true,true,true,true,true,true,false,false,false,false] rfl rfl (any_of HT_.out (by kernel_rfl)) (fun _ _ _ h => h) (Or.inr ⟨by rfl,rfl⟩) ?_ ?_
           rotate_left
           ·simp only [Act.put,sA_,s0_,s1_,i64_w,i32_w]
            rfl
           refine pure_ (i:=21) (N:=some 115) (v:=undef) (a':=?_) #[true,true,true,true,true,true,true,true,true,true,true,true,true,true,true,true,true,true,true,true,true,true,false,false,false] rfl rfl (any_of HT_.out (by kernel_rfl)) (fun _ _ _ h => h) (Or.inr ⟨by rfl,rfl⟩) ?_ ?_
           rotate_left
           ·simp only [Act.put,sA_,s0_,s1_,i64_w,i32_w]
            rfl
           refine pure_ (i:=22) (N:=some 116) (v:=undef) (a':=?_) #[true,true,true,true,true,true,true,true,true,true,true,true,true,true,true,true,true,true,true,true,true,true,true,false,false] rfl rfl (any_of HT_.out (by kernel_rfl)) (fun _ _ _ h => h) (Or.inr ⟨by rfl,rfl⟩) ?_ ?_
           rotate_left
           ·simp only [Act.put,sA_,s0_,s1_,i64_w,i32_w]
            rfl
           refine pure_ (i:=23) (N:=some 117) (v:=undef) (a':=?_) #[true,true,true,true,true,true,true,true,true,true,true,true,true,true,true,true,true,true,true,true,true,true,true,true,false] rfl rfl (any_of HT_.out (by kernel_rfl)) (fun _ _ _ h => h) (Or.inr ⟨by rfl,rfl⟩) ?_ ?_
           rotate_left
           ·simp only [Act.put,sA_,s0_,s1_,i64_w,i32_w]
            rfl
           refine pure_ (i:=24) (N:=some 118) (v:=?_) (a':=?_) #[true,true,true,true,true,true,true,true,true,true,true,true,true,true,true,true,true,true,true,true,true,true,true,true,true] rfl rfl (any_of HT_.out (by kernel_rfl)) (fun _ _ _ h => h) (Or.inl ⟨by rfl, ?_⟩) ?_ ?_
           rotate_left
           ·intro w'
            go_simp
            with_reducible rfl
           rotate_left
           ·simp only [Act.put,sA_,s0_,s1_,i64_w,i32_w]
            rfl
           refine done_ (done_of HT_.out (by kernel_rfl)) ?_
           try go_wp2
           go_ret
           exact ⟨by rfl,by exact HB.out⟩
      ·replace c23:=Bool.eq_false_iff.mpr c23
       subst c23
       have H1 : (laws_FnCharges.j2 kj6 l0) = some r:=by rw [if_neg (show ¬ (false = true) by decide)] at H;exact H
       clear H
       have H:=H1
       clear H1
       have H':=Aside0.mk H
       clear H
       go_wp2
       go_meet
       case rel => exact ⟨_,H',⟨by have:=HJ6.out;omega⟩,⟨by exact HO_375001.out⟩,⟨by exact BK374.out⟩,⟨by exact HB.out⟩⟩
     case rest => as_aux_lemma =>
      clear HC22
      try clear c1
      try clear c2
      try clear p2
      try clear c3
      try clear p6
      try clear c18
      try clear c19
      try clear c23
      try clear c31
      try clear c33
      try clear c33b0
      try clear c33b1
      try clear c34
      try clear c34b0
      try clear c34b1
      try clear c35
      try clear hcz45_0
      try clear hcz45_1
      try clear hcz45_2
      try clear hcz49_0
      try clear hcz49_1
      try clear hcz49_2
      try clear hcz53_0
      try clear hcz53_1
      try clear hcz53_2
      try clear hfz45_0
      try clear hfz45_1
      try clear hfz45_2
      try clear hfz49_0
      try clear hfz49_1
      try clear hfz49_2
      try clear hfz53_0
      try clear hfz53_1
      try clear hfz53_2
      obtain ⟨kq,HA,HJ21,HO_375001,BK374,HB⟩ := hcut
      cases kq with
      | zero => exact absurd HA.out (by simp [laws_FnCharges.j2])
      | succ kj21 =>
       have H:=HA.out
       clear HA
       simp only [laws_FnCharges.j2] at H
       replace H:=Option.bind_eq_some_iff.mp H
       obtain ⟨⟨t388,t389,t392,t393,t394⟩,A560,H⟩ := H
       replace H : ((impl_LongestStay.f kj21 t388 t389 t392 t393 t394).bind fun bt396 => ((spec_LongestStay.f kj21 t388 t389 t392 t393 t394).bind fun bt398 => (if bt396.1 = bt398.1 then (laws_FnCharges.j3 kj21 l0 t393 t394 bt396.1 bt396.2 (bt396.2 != bt398.2) t388 t389 t392) else (laws_FnCharges.j3 kj21 l0 t393 t394 bt396.1 bt396.2 true t388 t389 t392)))) = some r:=H
       have A56:=Aside0.mk A560
       clear A560
       replace H:=Option.bind_eq_some_iff.mp H
       obtain ⟨⟨t396,t397⟩,A570,H⟩ := H
       replace H : ((spec_LongestStay.f kj21 t388 t389 t392 t393 t394).bind fun bt398 => (if t396 = bt398.1 then (laws_FnCharges.j3 kj21 l0 t393 t394 t396 t397 (t397 != bt398.2) t388 t389 t392) else (laws_FnCharges.j3 kj21 l0 t393 t394 t396 t397 true t388 t389 t392))) = some r:=H
       have A57:=Aside0.mk A570
       clear A570
       replace H:=Option.bind_eq_some_iff.mp H
       obtain ⟨⟨t398,t399⟩,A580,H⟩ := H
       replace H : (if t396 = t398 then (laws_FnCharges.j3 kj21 l0 t393 t394 t396 t397 (t397 != t399) t388 t389 t392) else (laws_FnCharges.j3 kj21 l0 t393 t394 t396 t397 true t388 t389 t392)) = some r:=H
       have A58:=Aside0.mk A580
       clear A580
       have HC59:=Aside0.mk H
       clear H
       go_upto_region 18 with (first | ((with_reducible refine gate_callee (f:=20) rfl ?_);refine goesL_ (some 121) rfl rfl Try.func20 (by kernel_rfl) rfl #[.slice A0 l0.length c0] rfl (by (try simp only [List.map_toArray,List.map_cons,List.map_nil]);rfl) ?_;(with_reducible refine (spec_DrawLongestStay.calls kj21 _ _ l0 t388 t389 t392 t393 t394 _ ?side1 ?side2 A56.out).mono ?_);(case side1 => repeat (exact (Kd.C_below HR0.out HB.out)));(case side2 => exact HC0.out);rintro e w60 ⟨v390,rfl,ho0,hb⟩;refine ⟨_,rfl, ?_⟩;have n0_:=Aside0.mk (Kd.R_elder' (by exact HO_375001.out) (Kd.R_base ho0) hb);have n1_:=Aside0.mk (Kd.R_lower (Kd.R_new' ho0 (Kd.R_lt (by exact HO_375001.out))) (below_size (by exact HB.out)));have n2_:=Aside0.mk (blk_below (g:=gb374) (o := .cells #[.int .i64 t367, .slice Ao11 t368.length co11, .int .i64 t371] 38 (0,0)) (by exact BK374.out) hb);have n3_:=Aside0.mk (below_step (by exact HB.out) hb);clear HO_375001;clear BK374;clear HB;have HO_375001:=n0_;have HO391:=n1_;have BK374:=n2_;have HB:=n3_;clear n0_ n1_ n2_ n3_;(try clear hb);(try clear ho0)) | ((with_reducible refine gate_dst (N:=14) rfl ?_);(try (refine gate_guard (by rfl) ?_;dsimp only));refine box_event ?hg (N:=14) ?hd (cs:=#[.int .i64 0, .slice none 0 0, .int .i64 0]) (t:=38) ?hr ?_;(case hd => rfl);(case hg => rfl);(case hr => (go_simp;done));intro gb395 hg w61 hbox hb;have n0_:=Aside0.mk (Kd.R_below (by exact HO_375001.out) hb);have n1_:=Aside0.mk (Kd.R_below (by exact HO391.out) hb);have n2_:=Aside0.mk (blk_below (g:=gb374) (o := .cells #[.int .i64 t367, .slice Ao11 t368.length co11, .int .i64 t371] 38 (0,0)) (by exact BK374.out) hb);have n3_:=Aside0.mk (below_step (by exact HB.out) hb);have n4_:=Aside0.mk (hbox);have n5_:=Aside0.mk ((by rw [hg];exact (below_size (by exact HB.out)) : w.heap.size ≤ gb395));have n6_:=Aside0.mk ((by rw [hg];exact (below_size (by exact HB.out)) : w.heap.size ≤ gb395));have n7_:=Aside0.mk ((by rw [hg];exact Nat.ne_of_lt (blk_lt (g:=gb374) (o := .cells #[.int .i64 t367, .slice Ao11 t368.length co11, .int .i64 t371] 38 (0,0)) (by exact BK374.out)) : gb374 ≠ gb395));have n8_:=Aside0.mk ((by rw [hg];exact Nat.ne_of_gt (blk_lt (g:=gb374) (o := .cells #[.int .i64 t367, .slice Ao11 t368.length co11, .int .i64 t371] 38 (0,0)) (by exact BK374.out)) : gb395 ≠ gb374));clear HO_375001;clear HO391;clear BK374;clear HB;have HO_375001:=n0_;have HO391:=n1_;have BK374:=n2_;have HB:=n3_;have BK395:=n4_;have GW395:=n5_;have GE395:=n6_;have NB374_395:=n7_;have NB395_374:=n8_;clear n0_ n1_ n2_ n3_ n4_ n5_ n6_ n7_ n8_;clear hb hbox hg;have hnb62:=NB395_374.out;have hnc62:=NB374_395.out;have hcz63_0 : w61.cell? ⟨gb395,0,none⟩ = some (.int .i64 0):=(blk_cell BK395.out 0).trans rfl;have hcz63_1 : w61.cell? ⟨gb395,1,none⟩ = some (.slice none 0 0):=(blk_cell BK395.out 1).trans rfl;have hcz63_2 : w61.cell? ⟨gb395,2,none⟩ = some (.int .i64 0):=(blk_cell BK395.out 2).trans rfl;have hfz63_0:=blk_frozen BK395.out 0;have hfz63_1:=blk_frozen BK395.out 1;have hfz63_2:=blk_frozen BK395.out 2;obtain ⟨Ao64,co64,eo64⟩ := Kd.R_slice HO391.out;subst eo64) | ((with_reducible refine gate_callee (f:=21) rfl ?_);refine goesL_ (some 129) rfl rfl Try.func21 (by kernel_rfl) rfl #[.agg #[.int .i64 t388, .slice Ao64 t389.length co64, .int .i64 t392], .int .i64 t393, .int .i64 t394] rfl (by (try simp only [List.map_toArray,List.map_cons,List.map_nil]);rfl) ?_;(with_reducible refine (impl_LongestStay.calls kj21 t388 _ _ t389 t392 t393 t394 t396 t397 _ ?side1 ?side2 A57.out).mono ?_);(case side1 => refine (Kd.R_reads' (e:=51) (base:=w.heap.size) (ok:=fun k_ => (True ∧ some k_ ≠ (.slice Ao11 t368.length co11 : Value).ownBlock)) (n:=t389.length) (c:=co64) ?_).2.2;exact (by exact (Kd.R_mono (Kd.R_far (p:=⟨gb395,2,none⟩) (Kd.R_far (p:=⟨gb395,1,none⟩) (Kd.R_far (p:=⟨gb395,0,none⟩) (Kd.R_types HO391.out BK395.out (by decide)) (fun _ hk => hk.2) (.int .i64 t388)) (fun _ hk => hk.2) (.slice Ao64 t389.length co64)) (fun _ hk => hk.2) (.int .i64 t392)) (fun _ h_ => h_.1))));(case side2 => exact (Kd.R_reads' HO391.out).2.1);rintro e w65 ⟨rfl,hb⟩;refine ⟨_,rfl, ?_⟩;have n0_:=Aside0.mk (Kd.R_below (by exact (Kd.R_mono (Kd.R_far (p:=⟨gb395,2,none⟩) (Kd.R_far (p:=⟨gb395,1,none⟩) (Kd.R_far (p:=⟨gb395,0,none⟩) (Kd.R_types HO_375001.out BK395.out (by decide)) (fun _ hk => hk.2) (.int .i64 t388)) (fun _ hk => hk.2) (.slice Ao64 t389.length co64)) (fun _ hk => hk.2) (.int .i64 t392)) (fun _ h_ => h_.1))) hb);have n1_:=Aside0.mk (Kd.R_below (by exact (Kd.R_mono (Kd.R_far (p:=⟨gb395,2,none⟩) (Kd.R_far (p:=⟨gb395,1,none⟩) (Kd.R_far (p:=⟨gb395,0,none⟩) (Kd.R_types HO391.out BK395.out (by decide)) (fun _ hk => hk.2) (.int .i64 t388)) (fun _ hk => hk.2) (.slice Ao64 t389.length co64)) (fun _ hk => hk.2) (.int .i64 t392)) (fun _ h_ => h_.1))) hb);have n2_:=Aside0.mk (blk_below (g:=gb374) (o := .cells #[.int .i64 t367, .slice Ao11 t368.length co11, .int .i64 t371] 38 (0,0)) (by refine blk_far ?_ NB374_395.out _;refine blk_far ?_ NB374_395.out _;refine blk_far ?_ NB374_395.out _;exact BK374.out) hb);have n3_:=Aside0.mk (blk_below (g:=gb395) (o := .cells #[.int .i64 t388, .slice Ao64 t389.length co64, .int .i64 t392] 38 (0,0)) (by refine blk_put (cs:=#[.int .i64 t388, .slice Ao64 t389.length co64, .int .i64 0]) ?_ 2 _ rfl;refine blk_put (cs:=#[.int .i64 t388, .slice none 0 0, .int .i64 0]) ?_ 1 _ rfl;refine blk_put (cs:=#[.int .i64 0, .slice none 0 0, .int .i64 0]) ?_ 0 _ rfl;exact BK395.out) hb);have n4_:=Aside0.mk (below_step (by repeat ((with_reducible first | exact HB.out | refine below_set ?_ GE395.out))) hb);clear HO_375001;clear HO391;clear BK374;clear BK395;clear HB;have HO_375001:=n0_;have HO391:=n1_;have BK374:=n2_;have BK395:=n3_;have HB:=n4_;clear n0_ n1_ n2_ n3_ n4_;(try clear hb);have hcz66_0 : w65.cell? ⟨gb395,0,none⟩ = some (.int .i64 t388):=(blk_cell BK395.out 0).trans rfl;have hcz66_1 : w65.cell? ⟨gb395,1,none⟩ = some (.slice Ao64 t389.length co64):=(blk_cell BK395.out 1).trans rfl;have hcz66_2 : w65.cell? ⟨gb395,2,none⟩ = some (.int .i64 t392):=(blk_cell BK395.out 2).trans rfl;have hfz66_0:=blk_frozen BK395.out 0;have hfz66_1:=blk_frozen BK395.out 1;have hfz66_2:=blk_frozen BK395.out 2) | ((with_reducible refine gate_callee (f:=22) rfl ?_);refine goesL_ (some 136) rfl rfl Try.func22 (by kernel_rfl) rfl #[.agg #[.int .i64 t388, .slice Ao64 t389.length co64, .int .i64 t392], .int .i64 t393, .int .i64 t394] rfl (by (try simp only [List.map_toArray,List.map_cons,List.map_nil]);rfl) ?_;(with_reducible refine (spec_LongestStay.calls kj21 t388 _ _ t389 t392 t393 t394 t398 t399 _ ?side1 ?side2 A58.out).mono ?_);(case side1 => repeat (exact (Kd.R_reads' HO391.out).2.2));(case side2 => exact (Kd.R_reads' HO391.out).2.1);rintro e w67 ⟨rfl,hb⟩;refine ⟨_,rfl, ?_⟩;have n0_:=Aside0.mk (Kd.R_below (by exact HO_375001.out) hb);have n1_:=Aside0.mk (Kd.R_below (by exact HO391.out) hb);have n2_:=Aside0.mk (blk_below (g:=gb374) (o := .cells #[.int .i64 t367, .slice Ao11 t368.length co11, .int .i64 t371] 38 (0,0)) (by exact BK374.out) hb);have n3_:=Aside0.mk (blk_below (g:=gb395) (o := .cells #[.int .i64 t388, .slice Ao64 t389.length co64, .int .i64 t392] 38 (0,0)) (by exact BK395.out) hb);have n4_:=Aside0.mk (below_step (by exact HB.out) hb);clear HO_375001;clear HO391;clear BK374;clear BK395;clear HB;have HO_375001:=n0_;have HO391:=n1_;have BK374:=n2_;have BK395:=n3_;have HB:=n4_;clear n0_ n1_ n2_ n3_ n4_;(try clear hb)))
       (skip)
       go_cut [146] (fun v146 wc => ∃ (kq : Nat) (x146_58 : Bool),v146 = .bool x146_58 ∧ Aside0 (laws_FnCharges.j3 kq l0 t393 t394 t396 t397 x146_58 t388 t389 t392 = some r) ∧ Aside0 (kq ≤ kj21) ∧ Aside0 (Kd.R k51 51 wc w.heap.size (fun k_ => some k_ ≠ ((.slice Ao64 t389.length co64) : Value).ownBlock) (.slice Ao11 t368.length co11) t368) ∧ Aside0 (Kd.R k51 51 wc w.heap.size (fun k_ => some k_ ≠ ((.slice Ao11 t368.length co11) : Value).ownBlock) (.slice Ao64 t389.length co64) t389) ∧ Aside0 (wc.heap[gb374]? = some (.cells #[.int .i64 t367,(.slice Ao11 t368.length co11), .int .i64 t371] 38 (0,0))) ∧ Aside0 (wc.heap[gb395]? = some (.cells #[.int .i64 t388,(.slice Ao64 t389.length co64), .int .i64 t392] 38 (0,0))) ∧ Aside0 (Below w.heap.size w wc))
       case first =>
        have H:=HC59.out
        clear HC59
        by_cases c68 : t396 = t398
        ·rw [if_pos c68] at H
         have c68b0 : (t396 == t398) = true:=beq_iff_eq.mpr c68
         have c68b1 : (t396 != t398) = false:=bne_eq_false_iff_eq.mpr c68
         clear c68
         (skip)
         have H':=Aside0.mk H
         clear H
         go_wp2
         go_meet
         case rel => exact ⟨_,((t397 != t399)),(by rfl),H',⟨by have:=HJ6.out;have:=HJ21.out;omega⟩,⟨by exact Kd.R_mono HO_375001.out (fun _ hk => hk.2)⟩,⟨by exact Kd.R_mono HO391.out (fun _ hk => hk.2)⟩,⟨by exact BK374.out⟩,⟨by exact BK395.out⟩,⟨by exact HB.out⟩⟩
        ·rw [if_neg c68] at H
         have c68b0 : (t396 == t398) = false:=beq_eq_false_iff_ne.mpr c68
         have c68b1 : (t396 != t398) = true:=bne_iff_ne.mpr c68
         (skip)
         have H':=Aside0.mk H
         clear H
         go_wp2
         go_meet
         case rel => exact ⟨_,(true),(by rfl),H',⟨by have:=HJ6.out;have:=HJ21.out;omega⟩,⟨by exact Kd.R_mono HO_375001.out (fun _ hk => hk.2)⟩,⟨by exact Kd.R_mono HO391.out (fun _ hk => hk.2)⟩,⟨by exact BK374.out⟩,⟨by exact BK395.out⟩,⟨by exact HB.out⟩⟩
       case rest => as_aux_lemma =>
        clear HC59
        try clear c1
        try clear c2
        try clear p2
        try clear c3
        try clear c6
        try clear p6
        try clear c18
        try clear c19
        try clear c20
        try clear c21
        try clear c22
        try clear c23
        try clear c31
        try clear c33
        try clear c33b0
        try clear c33b1
        try clear c34
        try clear c34b0
        try clear c34b1
        try clear c35
        try clear c62
        try clear c68
        try clear c68b0
        try clear c68b1
        try clear hcz45_0
        try clear hcz45_1
        try clear hcz45_2
        try clear hcz49_0
        try clear hcz49_1
        try clear hcz49_2
        try clear hcz53_0
        try clear hcz53_1
        try clear hcz53_2
        try clear hcz63_0
        try clear hcz63_1
        try clear hcz63_2
        try clear hcz66_0
        try clear hcz66_1
        try clear hcz66_2
        try clear hfz45_0
        try clear hfz45_1
        try clear hfz45_2
        try clear hfz49_0
        try clear hfz49_1
        try clear hfz49_2
        try clear hfz53_0
        try clear hfz53_1
        try clear hfz53_2
        try clear hfz63_0
        try clear hfz63_1
        try clear hfz63_2
        try clear hfz66_0
        try clear hfz66_1
        try clear hfz66_2
        try clear p2
        try clear p6
        obtain ⟨kq,x146_58,rfl,HA,HJ58,HO_375001,HO_396001,BK374,BK395,HB⟩ := hcut
        cases kq with
        | zero => exact absurd HA.out (by simp [laws_FnCharges.j3])
        | succ kj58 =>
         have H:=HA.out
         clear HA
         simp only [laws_FnCharges.j3] at H
         by_cases c69 : x146_58 = true
         ·subst c69
          have H1 : (some false) = some r:=by rw [if_pos rfl] at H;exact H
          clear H
          have H:=H1
          clear H1
          obtain rfl:=Option.some.inj H
          as_aux_lemma =>
           go_wp2
           go_ret
           exact ⟨by rfl,by exact HB.out⟩
         ·replace c69:=Bool.eq_false_iff.mpr c69
          subst c69
          have H1 : (if t397 = true then ((impl_StayCharge.f kj58 t388 t389 t392 t393 t396).bind fun bt400 => (if bt400.2 = true then (laws_FnCharges.j4 kj58 l0 t393 t394 t396 (decide (bt400.1 > t394)) t388 t389 t392) else (laws_FnCharges.j4 kj58 l0 t393 t394 t396 true t388 t389 t392))) else (laws_FnCharges.j5 kj58 l0)) = some r:=by rw [if_neg (show ¬ (false = true) by decide)] at H;exact H
          clear H
          have H:=H1
          clear H1
          have HC70:=Aside0.mk H
          clear H
          go_upto_if 147 with (fail)
          go_cut [] (fun wc => ∃ (kq : Nat),Aside0 (laws_FnCharges.j5 kq l0 = some r) ∧ Aside0 (kq ≤ kj58) ∧ Aside0 (Kd.R k51 51 wc w.heap.size (fun k_ => some k_ ≠ ((.slice Ao64 t389.length co64) : Value).ownBlock) (.slice Ao11 t368.length co11) t368) ∧ Aside0 (Kd.R k51 51 wc w.heap.size (fun k_ => some k_ ≠ ((.slice Ao11 t368.length co11) : Value).ownBlock) (.slice Ao64 t389.length co64) t389) ∧ Aside0 (wc.heap[gb374]? = some (.cells #[.int .i64 t367,(.slice Ao11 t368.length co11), .int .i64 t371] 38 (0,0))) ∧ Aside0 (wc.heap[gb395]? = some (.cells #[.int .i64 t388,(.slice Ao64 t389.length co64), .int .i64 t392] 38 (0,0))) ∧ Aside0 (Below w.heap.size w wc))
          case first =>
           have H:=HC70.out
           clear HC70
           by_cases c71 : t397 = true
           ·subst c71
            have H1 : ((impl_StayCharge.f kj58 t388 t389 t392 t393 t396).bind fun bt400 => (if bt400.2 = true then (laws_FnCharges.j4 kj58 l0 t393 t394 t396 (decide (bt400.1 > t394)) t388 t389 t392) else (laws_FnCharges.j4 kj58 l0 t393 t394 t396 true t388 t389 t392))) = some r:=by rw [if_pos rfl] at H;exact H
            clear H
            have H:=H1
            clear H1
            replace H:=Option.bind_eq_some_iff.mp H
            obtain ⟨⟨t400,t401⟩,A720,H⟩ := H
            replace H : (if t401 = true then (laws_FnCharges.j4 kj58 l0 t393 t394 t396 (decide (t400 > t394)) t388 t389 t392) else (laws_FnCharges.j4 kj58 l0 t393 t394 t396 true t388 t389 t392)) = some r:=H
            have A72:=Aside0.mk A720
            clear A720
            have HC73:=Aside0.mk H
            clear H
            have hnb74:=NB395_374.out
            have hnc74:=NB374_395.out
            have hcz75_0 : wc.cell? ⟨gb395,0,none⟩ = some (.int .i64 t388):=(blk_cell BK395.out 0).trans rfl
            have hcz75_1 : wc.cell? ⟨gb395,1,none⟩ = some (.slice Ao64 t389.length co64):=(blk_cell BK395.out 1).trans rfl
            have hcz75_2 : wc.cell? ⟨gb395,2,none⟩ = some (.int .i64 t392):=(blk_cell BK395.out 2).trans rfl
            have hfz75_0:=blk_frozen BK395.out 0
            have hfz75_1:=blk_frozen BK395.out 1
            have hfz75_2:=blk_frozen BK395.out 2
            go_upto_region 22 with (((with_reducible refine gate_callee (f:=15) rfl ?_);refine goesL_ (some 152) rfl rfl Try.func15 (by kernel_rfl) rfl #[.agg #[.int .i64 t388, .slice Ao64 t389.length co64, .int .i64 t392], .int .i64 t393, .int .i64 t396] rfl (by (try simp only [List.map_toArray,List.map_cons,List.map_nil]);rfl) ?_;(with_reducible refine (impl_StayCharge.calls kj58 t388 _ _ t389 t392 t393 t396 t400 t401 _ ?side1 ?side2 A72.out).mono ?_);(case side1 => repeat (exact (Kd.R_reads' HO_396001.out).2.2));(case side2 => exact (Kd.R_reads' HO_396001.out).2.1);rintro e w76 ⟨rfl,hb⟩;refine ⟨_,rfl, ?_⟩;have n0_:=Aside0.mk (Kd.R_below (by exact HO_375001.out) hb);have n1_:=Aside0.mk (Kd.R_below (by exact HO_396001.out) hb);have n2_:=Aside0.mk (blk_below (g:=gb374) (o := .cells #[.int .i64 t367, .slice Ao11 t368.length co11, .int .i64 t371] 38 (0,0)) (by exact BK374.out) hb);have n3_:=Aside0.mk (blk_below (g:=gb395) (o := .cells #[.int .i64 t388, .slice Ao64 t389.length co64, .int .i64 t392] 38 (0,0)) (by exact BK395.out) hb);have n4_:=Aside0.mk (below_step (by exact HB.out) hb);clear HO_375001;clear HO_396001;clear BK374;clear BK395;clear HB;have HO_375001:=n0_;have HO_396001:=n1_;have BK374:=n2_;have BK395:=n3_;have HB:=n4_;clear n0_ n1_ n2_ n3_ n4_;(try clear hb)))
            (skip)
            go_cut [161] (fun v161 wc => ∃ (kq : Nat) (x161_72 : Bool),v161 = .bool x161_72 ∧ Aside0 (laws_FnCharges.j4 kq l0 t393 t394 t396 x161_72 t388 t389 t392 = some r) ∧ Aside0 (kq ≤ kj58) ∧ Aside0 (Kd.R k51 51 wc w.heap.size (fun k_ => some k_ ≠ ((.slice Ao64 t389.length co64) : Value).ownBlock) (.slice Ao11 t368.length co11) t368) ∧ Aside0 (Kd.R k51 51 wc w.heap.size (fun k_ => some k_ ≠ ((.slice Ao11 t368.length co11) : Value).ownBlock) (.slice Ao64 t389.length co64) t389) ∧ Aside0 (wc.heap[gb374]? = some (.cells #[.int .i64 t367,(.slice Ao11 t368.length co11), .int .i64 t371] 38 (0,0))) ∧ Aside0 (wc.heap[gb395]? = some (.cells #[.int .i64 t388,(.slice Ao64 t389.length co64), .int .i64 t392] 38 (0,0))) ∧ Aside0 (Below w.heap.size w wc))
            case first =>
             have H:=HC73.out
             clear HC73
             by_cases c77 : t401 = true
             ·subst c77
              have H1 : (laws_FnCharges.j4 kj58 l0 t393 t394 t396 (decide (t400 > t394)) t388 t389 t392) = some r:=by rw [if_pos rfl] at H;exact H
              clear H
              have H:=H1
              clear H1
              have H':=Aside0.mk H
              clear H
              go_wp2
              go_meet
              case rel => exact ⟨_,(decide (t400 > t394)),(by rfl),H',⟨by have:=HJ6.out;have:=HJ21.out;have:=HJ58.out;omega⟩,⟨by exact HO_375001.out⟩,⟨by exact HO_396001.out⟩,⟨by exact BK374.out⟩,⟨by exact BK395.out⟩,⟨by exact HB.out⟩⟩
             ·replace c77:=Bool.eq_false_iff.mpr c77
              subst c77
              have H1 : (laws_FnCharges.j4 kj58 l0 t393 t394 t396 true t388 t389 t392) = some r:=by rw [if_neg (show ¬ (false = true) by decide)] at H;exact H
              clear H
              have H:=H1
              clear H1
              have H':=Aside0.mk H
              clear H
              go_wp2
              go_meet
              case rel => exact ⟨_,(true),(by rfl),H',⟨by have:=HJ6.out;have:=HJ21.out;have:=HJ58.out;omega⟩,⟨by exact HO_375001.out⟩,⟨by exact HO_396001.out⟩,⟨by exact BK374.out⟩,⟨by exact BK395.out⟩,⟨by exact HB.out⟩⟩
            case rest => as_aux_lemma =>
             clear HC73
             try clear c1
             try clear c2
             try clear p2
             try clear c3
             try clear c6
             try clear p6
             try clear c7
             try clear c15
             try clear c18
             try clear c19
             try clear c20
             try clear c21
             try clear c22
             try clear c23
             try clear c31
             try clear c33
             try clear c33b0
             try clear c33b1
             try clear c34
             try clear c34b0
             try clear c34b1
             try clear c35
             try clear c62
             try clear c68
             try clear c68b0
             try clear c68b1
             try clear c69
             try clear c71
             try clear c74
             try clear c77
             try clear hcz45_0
             try clear hcz45_1
             try clear hcz45_2
             try clear hcz49_0
             try clear hcz49_1
             try clear hcz49_2
             try clear hcz53_0
             try clear hcz53_1
             try clear hcz53_2
             try clear hcz63_0
             try clear hcz63_1
             try clear hcz63_2
             try clear hcz66_0
             try clear hcz66_1
             try clear hcz66_2
             try clear hcz75_0
             try clear hcz75_1
             try clear hcz75_2
             try clear hfz45_0
             try clear hfz45_1
             try clear hfz45_2
             try clear hfz49_0
             try clear hfz49_1
             try clear hfz49_2
             try clear hfz53_0
             try clear hfz53_1
             try clear hfz53_2
             try clear hfz63_0
             try clear hfz63_1
             try clear hfz63_2
             try clear hfz66_0
             try clear hfz66_1
             try clear hfz66_2
             try clear hfz75_0
             try clear hfz75_1
             try clear hfz75_2
             try clear p2
             try clear p6
             obtain ⟨kq,x161_72,rfl,HA,HJ72,HO_375001,HO_396001,BK374,BK395,HB⟩ := hcut
             cases kq with
             | zero => exact absurd HA.out (by simp [laws_FnCharges.j4])
             | succ kj72 =>
              have H:=HA.out
              clear HA
              simp only [laws_FnCharges.j4] at H
              by_cases c78 : x161_72 = true
              ·subst c78
               have H1 : (some false) = some r:=by rw [if_pos rfl] at H;exact H
               clear H
               have H:=H1
               clear H1
               obtain rfl:=Option.some.inj H
               as_aux_lemma =>
                go_wp2
                go_ret
                exact ⟨by rfl,by exact HB.out⟩
              ·replace c78:=Bool.eq_false_iff.mpr c78
               subst c78
               have H1 : ((impl_StayCharge.f kj72 t388 t389 t392 t393 (wrap64 (t396 + 1))).bind fun bt402 => (if bt402.2 = true then (if bt402.1 ≤ t394 then (some false) else (laws_FnCharges.j5 kj72 l0)) else (laws_FnCharges.j5 kj72 l0))) = some r:=by rw [if_neg (show ¬ (false = true) by decide)] at H;exact H
               clear H
               have H:=H1
               clear H1
               replace H:=Option.bind_eq_some_iff.mp H
               obtain ⟨⟨t402,t403⟩,A790,H⟩ := H
               replace H : (if t403 = true then (if t402 ≤ t394 then (some false) else (laws_FnCharges.j5 kj72 l0)) else (laws_FnCharges.j5 kj72 l0)) = some r:=H
               have A79:=Aside0.mk A790
               clear A790
               by_cases c80 : t403 = true
               ·subst c80
                have H1 : (if t402 ≤ t394 then (some false) else (laws_FnCharges.j5 kj72 l0)) = some r:=by rw [if_pos rfl] at H;exact H
                clear H
                have H:=H1
                clear H1
                by_cases c81 : t402 ≤ t394
                ·rw [if_pos c81] at H
                 have c81b0 : decide (t402 ≤ t394) = true:=decide_eq_true c81
                 clear c81
                 obtain rfl:=Option.some.inj H
                 have hnb82:=NB395_374.out
                 have hnc82:=NB374_395.out
                 have hcz83_0 : wc.cell? ⟨gb395,0,none⟩ = some (.int .i64 t388):=(blk_cell BK395.out 0).trans rfl
                 have hcz83_1 : wc.cell? ⟨gb395,1,none⟩ = some (.slice Ao64 t389.length co64):=(blk_cell BK395.out 1).trans rfl
                 have hcz83_2 : wc.cell? ⟨gb395,2,none⟩ = some (.int .i64 t392):=(blk_cell BK395.out 2).trans rfl
                 have hfz83_0:=blk_frozen BK395.out 0
                 have hfz83_1:=blk_frozen BK395.out 1
                 have hfz83_2:=blk_frozen BK395.out 2
                 as_aux_lemma =>
                  go_wp2_with (((with_reducible refine gate_callee (f:=15) rfl ?_);refine goesL_ (some 167) rfl rfl Try.func15 (by kernel_rfl) rfl #[.agg #[.int .i64 t388, .slice Ao64 t389.length co64, .int .i64 t392], .int .i64 t393, .int .i64 (wrap64 (t396 + 1))] rfl (by (try simp only [List.map_toArray,List.map_cons,List.map_nil]);rfl) ?_;(with_reducible refine (impl_StayCharge.calls kj72 t388 _ _ t389 t392 t393 (wrap64 (t396 + 1)) t402 true _ ?side1 ?side2 A79.out).mono ?_);(case side1 => repeat (exact (Kd.R_reads' HO_396001.out).2.2));(case side2 => exact (Kd.R_reads' HO_396001.out).2.1);rintro e w84 ⟨rfl,hb⟩;refine ⟨_,rfl, ?_⟩;have n0_:=Aside0.mk (Kd.R_below (by exact HO_375001.out) hb);have n1_:=Aside0.mk (Kd.R_below (by exact HO_396001.out) hb);have n2_:=Aside0.mk (blk_below (g:=gb374) (o := .cells #[.int .i64 t367, .slice Ao11 t368.length co11, .int .i64 t371] 38 (0,0)) (by exact BK374.out) hb);have n3_:=Aside0.mk (blk_below (g:=gb395) (o := .cells #[.int .i64 t388, .slice Ao64 t389.length co64, .int .i64 t392] 38 (0,0)) (by exact BK395.out) hb);have n4_:=Aside0.mk (below_step (by exact HB.out) hb);clear HO_375001;clear HO_396001;clear BK374;clear BK395;clear HB;have HO_375001:=n0_;have HO_396001:=n1_;have BK374:=n2_;have BK395:=n3_;have HB:=n4_;clear n0_ n1_ n2_ n3_ n4_;(try clear hb)))
                  go_ret
                  exact ⟨by rfl,by exact HB.out⟩
                ·rw [if_neg c81] at H
                 have c81b0 : decide (t402 ≤ t394) = false:=decide_eq_false c81
                 clear c81
                 have H':=Aside0.mk H
                 clear H
                 have hnb85:=NB395_374.out
                 have hnc85:=NB374_395.out
                 have hcz86_0 : wc.cell? ⟨gb395,0,none⟩ = some (.int .i64 t388):=(blk_cell BK395.out 0).trans rfl
                 have hcz86_1 : wc.cell? ⟨gb395,1,none⟩ = some (.slice Ao64 t389.length co64):=(blk_cell BK395.out 1).trans rfl
                 have hcz86_2 : wc.cell? ⟨gb395,2,none⟩ = some (.int .i64 t392):=(blk_cell BK395.out 2).trans rfl
                 have hfz86_0:=blk_frozen BK395.out 0
                 have hfz86_1:=blk_frozen BK395.out 1
                 have hfz86_2:=blk_frozen BK395.out 2
                 go_wp2_with (((with_reducible refine gate_callee (f:=15) rfl ?_);refine goesL_ (some 167) rfl rfl Try.func15 (by kernel_rfl) rfl #[.agg #[.int .i64 t388, .slice Ao64 t389.length co64, .int .i64 t392], .int .i64 t393, .int .i64 (wrap64 (t396 + 1))] rfl (by (try simp only [List.map_toArray,List.map_cons,List.map_nil]);rfl) ?_;(with_reducible refine (impl_StayCharge.calls kj72 t388 _ _ t389 t392 t393 (wrap64 (t396 + 1)) t402 true _ ?side1 ?side2 A79.out).mono ?_);(case side1 => repeat (exact (Kd.R_reads' HO_396001.out).2.2));(case side2 => exact (Kd.R_reads' HO_396001.out).2.1);rintro e w87 ⟨rfl,hb⟩;refine ⟨_,rfl, ?_⟩;have n0_:=Aside0.mk (Kd.R_below (by exact HO_375001.out) hb);have n1_:=Aside0.mk (Kd.R_below (by exact HO_396001.out) hb);have n2_:=Aside0.mk (blk_below (g:=gb374) (o := .cells #[.int .i64 t367, .slice Ao11 t368.length co11, .int .i64 t371] 38 (0,0)) (by exact BK374.out) hb);have n3_:=Aside0.mk (blk_below (g:=gb395) (o := .cells #[.int .i64 t388, .slice Ao64 t389.length co64, .int .i64 t392] 38 (0,0)) (by exact BK395.out) hb);have n4_:=Aside0.mk (below_step (by exact HB.out) hb);clear HO_375001;clear HO_396001;clear BK374;clear BK395;clear HB;have HO_375001:=n0_;have HO_396001:=n1_;have BK374:=n2_;have BK395:=n3_;have HB:=n4_;clear n0_ n1_ n2_ n3_ n4_;(try clear hb)))
                 go_meet
                 case rel => exact ⟨_,H',⟨by have:=HJ6.out;have:=HJ21.out;have:=HJ58.out;have:=HJ72.out;omega⟩,⟨by exact HO_375001.out⟩,⟨by exact HO_396001.out⟩,⟨by exact BK374.out⟩,⟨by exact BK395.out⟩,⟨by exact HB.out⟩⟩
               ·replace c80:=Bool.eq_false_iff.mpr c80
                subst c80
                have H1 : (laws_FnCharges.j5 kj72 l0) = some r:=by rw [if_neg (show ¬ (false = true) by decide)] at H;exact H
                clear H
                have H:=H1
                clear H1
                have H':=Aside0.mk H
                clear H
                have hnb88:=NB395_374.out
                have hnc88:=NB374_395.out
                have hcz89_0 : wc.cell? ⟨gb395,0,none⟩ = some (.int .i64 t388):=(blk_cell BK395.out 0).trans rfl
                have hcz89_1 : wc.cell? ⟨gb395,1,none⟩ = some (.slice Ao64 t389.length co64):=(blk_cell BK395.out 1).trans rfl
                have hcz89_2 : wc.cell? ⟨gb395,2,none⟩ = some (.int .i64 t392):=(blk_cell BK395.out 2).trans rfl
                have hfz89_0:=blk_frozen BK395.out 0
                have hfz89_1:=blk_frozen BK395.out 1
                have hfz89_2:=blk_frozen BK395.out 2
                go_wp2_with (((with_reducible refine gate_callee (f:=15) rfl ?_);refine goesL_ (some 167) rfl rfl Try.func15 (by kernel_rfl) rfl #[.agg #[.int .i64 t388, .slice Ao64 t389.length co64, .int .i64 t392], .int .i64 t393, .int .i64 (wrap64 (t396 + 1))] rfl (by (try simp only [List.map_toArray,List.map_cons,List.map_nil]);rfl) ?_;(with_reducible refine (impl_StayCharge.calls kj72 t388 _ _ t389 t392 t393 (wrap64 (t396 + 1)) t402 false _ ?side1 ?side2 A79.out).mono ?_);(case side1 => repeat (exact (Kd.R_reads' HO_396001.out).2.2));(case side2 => exact (Kd.R_reads' HO_396001.out).2.1);rintro e w90 ⟨rfl,hb⟩;refine ⟨_,rfl, ?_⟩;have n0_:=Aside0.mk (Kd.R_below (by exact HO_375001.out) hb);have n1_:=Aside0.mk (Kd.R_below (by exact HO_396001.out) hb);have n2_:=Aside0.mk (blk_below (g:=gb374) (o := .cells #[.int .i64 t367, .slice Ao11 t368.length co11, .int .i64 t371] 38 (0,0)) (by exact BK374.out) hb);have n3_:=Aside0.mk (blk_below (g:=gb395) (o := .cells #[.int .i64 t388, .slice Ao64 t389.length co64, .int .i64 t392] 38 (0,0)) (by exact BK395.out) hb);have n4_:=Aside0.mk (below_step (by exact HB.out) hb);clear HO_375001;clear HO_396001;clear BK374;clear BK395;clear HB;have HO_375001:=n0_;have HO_396001:=n1_;have BK374:=n2_;have BK395:=n3_;have HB:=n4_;clear n0_ n1_ n2_ n3_ n4_;(try clear hb)))
                go_meet
                case rel => exact ⟨_,H',⟨by have:=HJ6.out;have:=HJ21.out;have:=HJ58.out;have:=HJ72.out;omega⟩,⟨by exact HO_375001.out⟩,⟨by exact HO_396001.out⟩,⟨by exact BK374.out⟩,⟨by exact BK395.out⟩,⟨by exact HB.out⟩⟩
           ·replace c71:=Bool.eq_false_iff.mpr c71
            subst c71
            have H1 : (laws_FnCharges.j5 kj58 l0) = some r:=by rw [if_neg (show ¬ (false = true) by decide)] at H;exact H
            clear H
            have H:=H1
            clear H1
            have H':=Aside0.mk H
            clear H
            go_wp2
            go_meet
            case rel => exact ⟨_,H',⟨by have:=HJ6.out;have:=HJ21.out;have:=HJ58.out;omega⟩,⟨by exact HO_375001.out⟩,⟨by exact HO_396001.out⟩,⟨by exact BK374.out⟩,⟨by exact BK395.out⟩,⟨by exact HB.out⟩⟩
          case rest => as_aux_lemma =>
           clear HC70
           try clear c1
           try clear c2
           try clear p2
           try clear c3
           try clear c6
           try clear p6
           try clear c7
           try clear c8
           try clear c15
           try clear c18
           try clear c19
           try clear c20
           try clear c21
           try clear c22
           try clear c23
           try clear c31
           try clear c33
           try clear c33b0
           try clear c33b1
           try clear c34
           try clear c34b0
           try clear c34b1
           try clear c35
           try clear c62
           try clear p64
           try clear c68
           try clear c68b0
           try clear c68b1
           try clear c69
           try clear c71
           try clear c74
           try clear c77
           try clear c78
           try clear c80
           try clear c81
           try clear c81b0
           try clear c82
           try clear c85
           try clear c88
           try clear hcz45_0
           try clear hcz45_1
           try clear hcz45_2
           try clear hcz49_0
           try clear hcz49_1
           try clear hcz49_2
           try clear hcz53_0
           try clear hcz53_1
           try clear hcz53_2
           try clear hcz63_0
           try clear hcz63_1
           try clear hcz63_2
           try clear hcz66_0
           try clear hcz66_1
           try clear hcz66_2
           try clear hcz75_0
           try clear hcz75_1
           try clear hcz75_2
           try clear hcz83_0
           try clear hcz83_1
           try clear hcz83_2
           try clear hcz86_0
           try clear hcz86_1
           try clear hcz86_2
           try clear hcz89_0
           try clear hcz89_1
           try clear hcz89_2
           try clear hfz45_0
           try clear hfz45_1
           try clear hfz45_2
           try clear hfz49_0
           try clear hfz49_1
           try clear hfz49_2
           try clear hfz53_0
           try clear hfz53_1
           try clear hfz53_2
           try clear hfz63_0
           try clear hfz63_1
           try clear hfz63_2
           try clear hfz66_0
           try clear hfz66_1
           try clear hfz66_2
           try clear hfz75_0
           try clear hfz75_1
           try clear hfz75_2
           try clear hfz83_0
           try clear hfz83_1
           try clear hfz83_2
           try clear hfz86_0
           try clear hfz86_1
           try clear hfz86_2
           try clear hfz89_0
           try clear hfz89_1
           try clear hfz89_2
           try clear p2
           try clear p6
           obtain ⟨kq,HA,HJ69,HO_375001,HO_396001,BK374,BK395,HB⟩ := hcut
           cases kq with
           | zero => exact absurd HA.out (by simp [laws_FnCharges.j5])
           | succ kj69 =>
            have H:=HA.out
            clear HA
            simp only [laws_FnCharges.j5] at H
            replace H:=Option.bind_eq_some_iff.mp H
            obtain ⟨⟨t404,t405,t408,t409⟩,A910,H⟩ := H
            replace H : ((impl_RateOn.f kj69 t404 t405 t408 t409).bind fun bt411 => ((impl_StepOn.f kj69 t404 t405 t408 t409).bind fun bt413 => ((spec_RateOn.f kj69 t404 t405 t408 t409).bind fun bt415 => ((spec_StepOn.f kj69 t404 t405 t408 t409).bind fun bt417 => (if bt411.1 = bt415.1 then (if (bt411.2 != bt415.2) = true then (some false) else (if bt413.1 = bt417.1 then (if (bt413.2 != bt415.2) = true then (some false) else (if bt411.2 = true then (if bt413.1 < 0 then (if bt411.1 = 0 then (some true) else (if bt413.1 ≥ 0 then (if 0 ≤ bt413.1 then (if bt413.1 < (t405.length : Int) then (some (bt411.1 == ((rd_T51 t405 bt413.1).f1))) else (none)) else (none)) else (some false))) else (if bt413.1 ≥ 0 then (if 0 ≤ bt413.1 then (if bt413.1 < (t405.length : Int) then (some (bt411.1 == ((rd_T51 t405 bt413.1).f1))) else (none)) else (none)) else (some false))) else (some true))) else (some false))) else (some false)))))) = some r:=H
            have A91:=Aside0.mk A910
            clear A910
            replace H:=Option.bind_eq_some_iff.mp H
            obtain ⟨⟨t411,t412⟩,A920,H⟩ := H
            replace H : ((impl_StepOn.f kj69 t404 t405 t408 t409).bind fun bt413 => ((spec_RateOn.f kj69 t404 t405 t408 t409).bind fun bt415 => ((spec_StepOn.f kj69 t404 t405 t408 t409).bind fun bt417 => (if t411 = bt415.1 then (if (t412 != bt415.2) = true then (some false) else (if bt413.1 = bt417.1 then (if (bt413.2 != bt415.2) = true then (some false) else (if t412 = true then (if bt413.1 < 0 then (if t411 = 0 then (some true) else (if bt413.1 ≥ 0 then (if 0 ≤ bt413.1 then (if bt413.1 < (t405.length : Int) then (some (t411 == ((rd_T51 t405 bt413.1).f1))) else (none)) else (none)) else (some false))) else (if bt413.1 ≥ 0 then (if 0 ≤ bt413.1 then (if bt413.1 < (t405.length : Int) then (some (t411 == ((rd_T51 t405 bt413.1).f1))) else (none)) else (none)) else (some false))) else (some true))) else (some false))) else (some false))))) = some r:=H
            have A92:=Aside0.mk A920
            clear A920
            replace H:=Option.bind_eq_some_iff.mp H
            obtain ⟨⟨t413,t414⟩,A930,H⟩ := H
            replace H : ((spec_RateOn.f kj69 t404 t405 t408 t409).bind fun bt415 => ((spec_StepOn.f kj69 t404 t405 t408 t409).bind fun bt417 => (if t411 = bt415.1 then (if (t412 != bt415.2) = true then (some false) else (if t413 = bt417.1 then (if (t414 != bt415.2) = true then (some false) else (if t412 = true then (if t413 < 0 then (if t411 = 0 then (some true) else (if t413 ≥ 0 then (if 0 ≤ t413 then (if t413 < (t405.length : Int) then (some (t411 == ((rd_T51 t405 t413).f1))) else (none)) else (none)) else (some false))) else (if t413 ≥ 0 then (if 0 ≤ t413 then (if t413 < (t405.length : Int) then (some (t411 == ((rd_T51 t405 t413).f1))) else (none)) else (none)) else (some false))) else (some true))) else (some false))) else (some false)))) = some r:=H
            have A93:=Aside0.mk A930
            clear A930
            replace H:=Option.bind_eq_some_iff.mp H
            obtain ⟨⟨t415,t416⟩,A940,H⟩ := H
            replace H : ((spec_StepOn.f kj69 t404 t405 t408 t409).bind fun bt417 => (if t411 = t415 then (if (t412 != t416) = true then (some false) else (if t413 = bt417.1 then (if (t414 != t416) = true then (some false) else (if t412 = true then (if t413 < 0 then (if t411 = 0 then (some true) else (if t413 ≥ 0 then (if 0 ≤ t413 then (if t413 < (t405.length : Int) then (some (t411 == ((rd_T51 t405 t413).f1))) else (none)) else (none)) else (some false))) else (if t413 ≥ 0 then (if 0 ≤ t413 then (if t413 < (t405.length : Int) then (some (t411 == ((rd_T51 t405 t413).f1))) else (none)) else (none)) else (some false))) else (some true))) else (some false))) else (some false))) = some r:=H
            have A94:=Aside0.mk A940
            clear A940
            replace H:=Option.bind_eq_some_iff.mp H
            obtain ⟨⟨t417,t418⟩,A950,H⟩ := H
            replace H : (if t411 = t415 then (if (t412 != t416) = true then (some false) else (if t413 = t417 then (if (t414 != t416) = true then (some false) else (if t412 = true then (if t413 < 0 then (if t411 = 0 then (some true) else (if t413 ≥ 0 then (if 0 ≤ t413 then (if t413 < (t405.length : Int) then (some (t411 == ((rd_T51 t405 t413).f1))) else (none)) else (none)) else (some false))) else (if t413 ≥ 0 then (if 0 ≤ t413 then (if t413 < (t405.length : Int) then (some (t411 == ((rd_T51 t405 t413).f1))) else (none)) else (none)) else (some false))) else (some true))) else (some false))) else (some false)) = some r:=H
            have A95:=Aside0.mk A950
            clear A950
            by_cases c96 : t411 = t415
            ·rw [if_pos c96] at H
             have c96b0 : (t411 == t415) = true:=beq_iff_eq.mpr c96
             have c96b1 : (t411 != t415) = false:=bne_eq_false_iff_eq.mpr c96
             clear c96
             by_cases c97 : (t412 != t416) = true
             ·rw [if_pos c97] at H
              have c97b0 : (t412 != t416) = true:=c97
              (try (have c97b1 : decide (t412 = t416) = false:=by simpa using c97))
              (try (have c97b2 : (t412 == t416) = false:=by simpa using c97))
              (try (have c97b3 : ¬ (t412 = t416):=by simpa using c97))
              clear c97
              obtain rfl:=Option.some.inj H
              as_aux_lemma =>
               go_wp2_with (first | ((with_reducible refine gate_callee (f:=23) rfl ?_);refine goesL_ (some 178) rfl rfl Try.func23 (by kernel_rfl) rfl #[.slice A0 l0.length c0] rfl (by (try simp only [List.map_toArray,List.map_cons,List.map_nil]);rfl) ?_;(with_reducible refine (spec_DrawRateOn.calls kj69 _ _ l0 t404 t405 t408 t409 _ ?side1 ?side2 A91.out).mono ?_);(case side1 => repeat (exact (Kd.C_below HR0.out HB.out)));(case side2 => exact HC0.out);rintro e w98 ⟨v406,rfl,ho0,hb⟩;refine ⟨_,rfl, ?_⟩;have n0_:=Aside0.mk (Kd.R_elder' (by exact HO_375001.out) (Kd.R_base ho0) hb);have n1_:=Aside0.mk (Kd.R_elder' (by exact HO_396001.out) (Kd.R_base ho0) hb);have n2_:=Aside0.mk (Kd.R_lower (Kd.R_new' (Kd.R_new' ho0 (Kd.R_lt (by exact HO_375001.out))) (Kd.R_lt (by exact HO_396001.out))) (below_size (by exact HB.out)));have n3_:=Aside0.mk (blk_below (g:=gb374) (o := .cells #[.int .i64 t367, .slice Ao11 t368.length co11, .int .i64 t371] 38 (0,0)) (by exact BK374.out) hb);have n4_:=Aside0.mk (blk_below (g:=gb395) (o := .cells #[.int .i64 t388, .slice Ao64 t389.length co64, .int .i64 t392] 38 (0,0)) (by exact BK395.out) hb);have n5_:=Aside0.mk (below_step (by exact HB.out) hb);clear HO_375001;clear HO_396001;clear BK374;clear BK395;clear HB;have HO_375001:=n0_;have HO_396001:=n1_;have HO407:=n2_;have BK374:=n3_;have BK395:=n4_;have HB:=n5_;clear n0_ n1_ n2_ n3_ n4_ n5_;(try clear hb);(try clear ho0)) | ((with_reducible refine gate_dst (N:=25) rfl ?_);(try (refine gate_guard (by rfl) ?_;dsimp only));refine box_event ?hg (N:=25) ?hd (cs:=#[.int .i64 0, .slice none 0 0, .int .i64 0]) (t:=38) ?hr ?_;(case hd => rfl);(case hg => rfl);(case hr => (go_simp;done));intro gb410 hg w99 hbox hb;have n0_:=Aside0.mk (Kd.R_below (by exact HO_375001.out) hb);have n1_:=Aside0.mk (Kd.R_below (by exact HO_396001.out) hb);have n2_:=Aside0.mk (Kd.R_below (by exact HO407.out) hb);have n3_:=Aside0.mk (blk_below (g:=gb374) (o := .cells #[.int .i64 t367, .slice Ao11 t368.length co11, .int .i64 t371] 38 (0,0)) (by exact BK374.out) hb);have n4_:=Aside0.mk (blk_below (g:=gb395) (o := .cells #[.int .i64 t388, .slice Ao64 t389.length co64, .int .i64 t392] 38 (0,0)) (by exact BK395.out) hb);have n5_:=Aside0.mk (below_step (by exact HB.out) hb);have n6_:=Aside0.mk (hbox);have n7_:=Aside0.mk ((by rw [hg];exact (below_size (by exact HB.out)) : w.heap.size ≤ gb410));have n8_:=Aside0.mk ((by rw [hg];exact (below_size (by exact HB.out)) : w.heap.size ≤ gb410));have n9_:=Aside0.mk ((by rw [hg];exact Nat.ne_of_lt (blk_lt (g:=gb374) (o := .cells #[.int .i64 t367, .slice Ao11 t368.length co11, .int .i64 t371] 38 (0,0)) (by exact BK374.out)) : gb374 ≠ gb410));have n10_:=Aside0.mk ((by rw [hg];exact Nat.ne_of_gt (blk_lt (g:=gb374) (o := .cells #[.int .i64 t367, .slice Ao11 t368.length co11, .int .i64 t371] 38 (0,0)) (by exact BK374.out)) : gb410 ≠ gb374));have n11_:=Aside0.mk ((by rw [hg];exact Nat.ne_of_lt (blk_lt (g:=gb395) (o := .cells #[.int .i64 t388, .slice Ao64 t389.length co64, .int .i64 t392] 38 (0,0)) (by exact BK395.out)) : gb395 ≠ gb410));have n12_:=Aside0.mk ((by rw [hg];exact Nat.ne_of_gt (blk_lt (g:=gb395) (o := .cells #[.int .i64 t388, .slice Ao64 t389.length co64, .int .i64 t392] 38 (0,0)) (by exact BK395.out)) : gb410 ≠ gb395));clear HO_375001;clear HO_396001;clear HO407;clear BK374;clear BK395;clear HB;have HO_375001:=n0_;have HO_396001:=n1_;have HO407:=n2_;have BK374:=n3_;have BK395:=n4_;have HB:=n5_;have BK410:=n6_;have GW410:=n7_;have GE410:=n8_;have NB374_410:=n9_;have NB410_374:=n10_;have NB395_410:=n11_;have NB410_395:=n12_;clear n0_ n1_ n2_ n3_ n4_ n5_ n6_ n7_ n8_ n9_ n10_ n11_ n12_;clear hb hbox hg;have hnb100:=NB410_374.out;have hnc100:=NB374_410.out;have hnb101:=NB410_395.out;have hnc101:=NB395_410.out;have hcz102_0 : w99.cell? ⟨gb410,0,none⟩ = some (.int .i64 0):=(blk_cell BK410.out 0).trans rfl;have hcz102_1 : w99.cell? ⟨gb410,1,none⟩ = some (.slice none 0 0):=(blk_cell BK410.out 1).trans rfl;have hcz102_2 : w99.cell? ⟨gb410,2,none⟩ = some (.int .i64 0):=(blk_cell BK410.out 2).trans rfl;have hfz102_0:=blk_frozen BK410.out 0;have hfz102_1:=blk_frozen BK410.out 1;have hfz102_2:=blk_frozen BK410.out 2;obtain ⟨Ao103,co103,eo103⟩ := Kd.R_slice HO407.out;subst eo103) | ((with_reducible refine gate_callee (f:=24) rfl ?_);refine goesL_ (some 184) rfl rfl Try.func24 (by kernel_rfl) rfl #[.agg #[.int .i64 t404, .slice Ao103 t405.length co103, .int .i64 t408], .int .i64 t409] rfl (by (try simp only [List.map_toArray,List.map_cons,List.map_nil]);rfl) ?_;(with_reducible refine (impl_RateOn.calls kj69 t404 _ _ t405 t408 t409 t411 t412 _ ?side1 ?side2 A92.out).mono ?_);(case side1 => refine (Kd.R_reads' (e:=51) (base:=w.heap.size) (ok:=fun k_ => ((True ∧ some k_ ≠ (.slice Ao11 t368.length co11 : Value).ownBlock) ∧ some k_ ≠ (.slice Ao64 t389.length co64 : Value).ownBlock)) (n:=t405.length) (c:=co103) ?_).2.2;exact (by exact (Kd.R_mono (Kd.R_far (p:=⟨gb410,2,none⟩) (Kd.R_far (p:=⟨gb410,1,none⟩) (Kd.R_far (p:=⟨gb410,0,none⟩) (Kd.R_types HO407.out BK410.out (by decide)) (fun _ hk => hk.2) (.int .i64 t404)) (fun _ hk => hk.2) (.slice Ao103 t405.length co103)) (fun _ hk => hk.2) (.int .i64 t408)) (fun _ h_ => h_.1))));(case side2 => exact (Kd.R_reads' HO407.out).2.1);rintro e w104 ⟨rfl,hb⟩;refine ⟨_,rfl, ?_⟩;have n0_:=Aside0.mk (Kd.R_below (by exact (Kd.R_mono (Kd.R_far (p:=⟨gb410,2,none⟩) (Kd.R_far (p:=⟨gb410,1,none⟩) (Kd.R_far (p:=⟨gb410,0,none⟩) (Kd.R_types HO_375001.out BK410.out (by decide)) (fun _ hk => hk.2) (.int .i64 t404)) (fun _ hk => hk.2) (.slice Ao103 t405.length co103)) (fun _ hk => hk.2) (.int .i64 t408)) (fun _ h_ => h_.1))) hb);have n1_:=Aside0.mk (Kd.R_below (by exact (Kd.R_mono (Kd.R_far (p:=⟨gb410,2,none⟩) (Kd.R_far (p:=⟨gb410,1,none⟩) (Kd.R_far (p:=⟨gb410,0,none⟩) (Kd.R_types HO_396001.out BK410.out (by decide)) (fun _ hk => hk.2) (.int .i64 t404)) (fun _ hk => hk.2) (.slice Ao103 t405.length co103)) (fun _ hk => hk.2) (.int .i64 t408)) (fun _ h_ => h_.1))) hb);have n2_:=Aside0.mk (Kd.R_below (by exact (Kd.R_mono (Kd.R_far (p:=⟨gb410,2,none⟩) (Kd.R_far (p:=⟨gb410,1,none⟩) (Kd.R_far (p:=⟨gb410,0,none⟩) (Kd.R_types HO407.out BK410.out (by decide)) (fun _ hk => hk.2) (.int .i64 t404)) (fun _ hk => hk.2) (.slice Ao103 t405.length co103)) (fun _ hk => hk.2) (.int .i64 t408)) (fun _ h_ => h_.1))) hb);have n3_:=Aside0.mk (blk_below (g:=gb374) (o := .cells #[.int .i64 t367, .slice Ao11 t368.length co11, .int .i64 t371] 38 (0,0)) (by refine blk_far ?_ NB374_410.out _;refine blk_far ?_ NB374_410.out _;refine blk_far ?_ NB374_410.out _;exact BK374.out) hb);have n4_:=Aside0.mk (blk_below (g:=gb395) (o := .cells #[.int .i64 t388, .slice Ao64 t389.length co64, .int .i64 t392] 38 (0,0)) (by refine blk_far ?_ NB395_410.out _;refine blk_far ?_ NB395_410.out _;refine blk_far ?_ NB395_410.out _;exact BK395.out) hb);have n5_:=Aside0.mk (blk_below (g:=gb410) (o := .cells #[.int .i64 t404, .slice Ao103 t405.length co103, .int .i64 t408] 38 (0,0)) (by refine blk_put (cs:=#[.int .i64 t404, .slice Ao103 t405.length co103, .int .i64 0]) ?_ 2 _ rfl;refine blk_put (cs:=#[.int .i64 t404, .slice none 0 0, .int .i64 0]) ?_ 1 _ rfl;refine blk_put (cs:=#[.int .i64 0, .slice none 0 0, .int .i64 0]) ?_ 0 _ rfl;exact BK410.out) hb);have n6_:=Aside0.mk (below_step (by repeat ((with_reducible first | exact HB.out | refine below_set ?_ GE410.out))) hb);clear HO_375001;clear HO_396001;clear HO407;clear BK374;clear BK395;clear BK410;clear HB;have HO_375001:=n0_;have HO_396001:=n1_;have HO407:=n2_;have BK374:=n3_;have BK395:=n4_;have BK410:=n5_;have HB:=n6_;clear n0_ n1_ n2_ n3_ n4_ n5_ n6_;(try clear hb);have hcz105_0 : w104.cell? ⟨gb410,0,none⟩ = some (.int .i64 t404):=(blk_cell BK410.out 0).trans rfl;have hcz105_1 : w104.cell? ⟨gb410,1,none⟩ = some (.slice Ao103 t405.length co103):=(blk_cell BK410.out 1).trans rfl;have hcz105_2 : w104.cell? ⟨gb410,2,none⟩ = some (.int .i64 t408):=(blk_cell BK410.out 2).trans rfl;have hfz105_0:=blk_frozen BK410.out 0;have hfz105_1:=blk_frozen BK410.out 1;have hfz105_2:=blk_frozen BK410.out 2) | ((with_reducible refine gate_callee (f:=25) rfl ?_);refine goesL_ (some 190) rfl rfl Try.func25 (by kernel_rfl) rfl #[.agg #[.int .i64 t404, .slice Ao103 t405.length co103, .int .i64 t408], .int .i64 t409] rfl (by (try simp only [List.map_toArray,List.map_cons,List.map_nil]);rfl) ?_;(with_reducible refine (impl_StepOn.calls kj69 t404 _ _ t405 t408 t409 t413 t414 _ ?side1 ?side2 A93.out).mono ?_);(case side1 => repeat (exact (Kd.R_reads' HO407.out).2.2));(case side2 => exact (Kd.R_reads' HO407.out).2.1);rintro e w106 ⟨rfl,hb⟩;refine ⟨_,rfl, ?_⟩;have n0_:=Aside0.mk (Kd.R_below (by exact HO_375001.out) hb);have n1_:=Aside0.mk (Kd.R_below (by exact HO_396001.out) hb);have n2_:=Aside0.mk (Kd.R_below (by exact HO407.out) hb);have n3_:=Aside0.mk (blk_below (g:=gb374) (o := .cells #[.int .i64 t367, .slice Ao11 t368.length co11, .int .i64 t371] 38 (0,0)) (by exact BK374.out) hb);have n4_:=Aside0.mk (blk_below (g:=gb395) (o := .cells #[.int .i64 t388, .slice Ao64 t389.length co64, .int .i64 t392] 38 (0,0)) (by exact BK395.out) hb);have n5_:=Aside0.mk (blk_below (g:=gb410) (o := .cells #[.int .i64 t404, .slice Ao103 t405.length co103, .int .i64 t408] 38 (0,0)) (by exact BK410.out) hb);have n6_:=Aside0.mk (below_step (by exact HB.out) hb);clear HO_375001;clear HO_396001;clear HO407;clear BK374;clear BK395;clear BK410;clear HB;have HO_375001:=n0_;have HO_396001:=n1_;have HO407:=n2_;have BK374:=n3_;have BK395:=n4_;have BK410:=n5_;have HB:=n6_;clear n0_ n1_ n2_ n3_ n4_ n5_ n6_;(try clear hb);have hcz107_0 : w106.cell? ⟨gb410,0,none⟩ = some (.int .i64 t404):=(blk_cell BK410.out 0).trans rfl;have hcz107_1 : w106.cell? ⟨gb410,1,none⟩ = some (.slice Ao103 t405.length co103):=(blk_cell BK410.out 1).trans rfl;have hcz107_2 : w106.cell? ⟨gb410,2,none⟩ = some (.int .i64 t408):=(blk_cell BK410.out 2).trans rfl;have hfz107_0:=blk_frozen BK410.out 0;have hfz107_1:=blk_frozen BK410.out 1;have hfz107_2:=blk_frozen BK410.out 2) | ((with_reducible refine gate_callee (f:=26) rfl ?_);refine goesL_ (some 196) rfl rfl Try.func26 (by kernel_rfl) rfl #[.agg #[.int .i64 t404, .slice Ao103 t405.length co103, .int .i64 t408], .int .i64 t409] rfl (by (try simp only [List.map_toArray,List.map_cons,List.map_nil]);rfl) ?_;(with_reducible refine (spec_RateOn.calls kj69 t404 _ _ t405 t408 t409 t415 t416 _ ?side1 ?side2 A94.out).mono ?_);(case side1 => repeat (exact (Kd.R_reads' HO407.out).2.2));(case side2 => exact (Kd.R_reads' HO407.out).2.1);rintro e w108 ⟨rfl,hb⟩;refine ⟨_,rfl, ?_⟩;have n0_:=Aside0.mk (Kd.R_below (by exact HO_375001.out) hb);have n1_:=Aside0.mk (Kd.R_below (by exact HO_396001.out) hb);have n2_:=Aside0.mk (Kd.R_below (by exact HO407.out) hb);have n3_:=Aside0.mk (blk_below (g:=gb374) (o := .cells #[.int .i64 t367, .slice Ao11 t368.length co11, .int .i64 t371] 38 (0,0)) (by exact BK374.out) hb);have n4_:=Aside0.mk (blk_below (g:=gb395) (o := .cells #[.int .i64 t388, .slice Ao64 t389.length co64, .int .i64 t392] 38 (0,0)) (by exact BK395.out) hb);have n5_:=Aside0.mk (blk_below (g:=gb410) (o := .cells #[.int .i64 t404, .slice Ao103 t405.length co103, .int .i64 t408] 38 (0,0)) (by exact BK410.out) hb);have n6_:=Aside0.mk (below_step (by exact HB.out) hb);clear HO_375001;clear HO_396001;clear HO407;clear BK374;clear BK395;clear BK410;clear HB;have HO_375001:=n0_;have HO_396001:=n1_;have HO407:=n2_;have BK374:=n3_;have BK395:=n4_;have BK410:=n5_;have HB:=n6_;clear n0_ n1_ n2_ n3_ n4_ n5_ n6_;(try clear hb);have hcz109_0 : w108.cell? ⟨gb410,0,none⟩ = some (.int .i64 t404):=(blk_cell BK410.out 0).trans rfl;have hcz109_1 : w108.cell? ⟨gb410,1,none⟩ = some (.slice Ao103 t405.length co103):=(blk_cell BK410.out 1).trans rfl;have hcz109_2 : w108.cell? ⟨gb410,2,none⟩ = some (.int .i64 t408):=(blk_cell BK410.out 2).trans rfl;have hfz109_0:=blk_frozen BK410.out 0;have hfz109_1:=blk_frozen BK410.out 1;have hfz109_2:=blk_frozen BK410.out 2) | ((with_reducible refine gate_callee (f:=27) rfl ?_);refine goesL_ (some 202) rfl rfl Try.func27 (by kernel_rfl) rfl #[.agg #[.int .i64 t404, .slice Ao103 t405.length co103, .int .i64 t408], .int .i64 t409] rfl (by (try simp only [List.map_toArray,List.map_cons,List.map_nil]);rfl) ?_;(with_reducible refine (spec_StepOn.calls kj69 t404 _ _ t405 t408 t409 t417 t418 _ ?side1 ?side2 A95.out).mono ?_);(case side1 => repeat (exact (Kd.R_reads' HO407.out).2.2));(case side2 => exact (Kd.R_reads' HO407.out).2.1);rintro e w110 ⟨rfl,hb⟩;refine ⟨_,rfl, ?_⟩;have n0_:=Aside0.mk (Kd.R_below (by exact HO_375001.out) hb);have n1_:=Aside0.mk (Kd.R_below (by exact HO_396001.out) hb);have n2_:=Aside0.mk (Kd.R_below (by exact HO407.out) hb);have n3_:=Aside0.mk (blk_below (g:=gb374) (o := .cells #[.int .i64 t367, .slice Ao11 t368.length co11, .int .i64 t371] 38 (0,0)) (by exact BK374.out) hb);have n4_:=Aside0.mk (blk_below (g:=gb395) (o := .cells #[.int .i64 t388, .slice Ao64 t389.length co64, .int .i64 t392] 38 (0,0)) (by exact BK395.out) hb);have n5_:=Aside0.mk (blk_below (g:=gb410) (o := .cells #[.int .i64 t404, .slice Ao103 t405.length co103, .int .i64 t408] 38 (0,0)) (by exact BK410.out) hb);have n6_:=Aside0.mk (below_step (by exact HB.out) hb);clear HO_375001;clear HO_396001;clear HO407;clear BK374;clear BK395;clear BK410;clear HB;have HO_375001:=n0_;have HO_396001:=n1_;have HO407:=n2_;have BK374:=n3_;have BK395:=n4_;have BK410:=n5_;have HB:=n6_;clear n0_ n1_ n2_ n3_ n4_ n5_ n6_;(try clear hb)))
               go_ret
               exact ⟨by rfl,by exact HB.out⟩
             ·rw [if_neg c97] at H
              have c97b0 : (t412 != t416) = false:=by simpa using c97
              (try (have c97b1 : decide (t412 = t416) = true:=by simpa using c97))
              (try (have c97b2 : (t412 == t416) = true:=by simpa using c97))
              clear c97
              by_cases c111 : t413 = t417
              ·rw [if_pos c111] at H
               have c111b0 : (t413 == t417) = true:=beq_iff_eq.mpr c111
               have c111b1 : (t413 != t417) = false:=bne_eq_false_iff_eq.mpr c111
               clear c111
               by_cases c112 : (t414 != t416) = true
               ·rw [if_pos c112] at H
                have c112b0 : (t414 != t416) = true:=c112
                (try (have c112b1 : decide (t414 = t416) = false:=by simpa using c112))
                (try (have c112b2 : (t414 == t416) = false:=by simpa using c112))
                (try (have c112b3 : ¬ (t414 = t416):=by simpa using c112))
                clear c112
                obtain rfl:=Option.some.inj H
                as_aux_lemma =>
                 go_wp2_with (first | ((with_reducible refine gate_callee (f:=23) rfl ?_);refine goesL_ (some 178) rfl rfl Try.func23 (by kernel_rfl) rfl #[.slice A0 l0.length c0] rfl (by (try simp only [List.map_toArray,List.map_cons,List.map_nil]);rfl) ?_;(with_reducible refine (spec_DrawRateOn.calls kj69 _ _ l0 t404 t405 t408 t409 _ ?side1 ?side2 A91.out).mono ?_);(case side1 => repeat (exact (Kd.C_below HR0.out HB.out)));(case side2 => exact HC0.out);rintro e w113 ⟨v406,rfl,ho0,hb⟩;refine ⟨_,rfl, ?_⟩;have n0_:=Aside0.mk (Kd.R_elder' (by exact HO_375001.out) (Kd.R_base ho0) hb);have n1_:=Aside0.mk (Kd.R_elder' (by exact HO_396001.out) (Kd.R_base ho0) hb);have n2_:=Aside0.mk (Kd.R_lower (Kd.R_new' (Kd.R_new' ho0 (Kd.R_lt (by exact HO_375001.out))) (Kd.R_lt (by exact HO_396001.out))) (below_size (by exact HB.out)));have n3_:=Aside0.mk (blk_below (g:=gb374) (o := .cells #[.int .i64 t367, .slice Ao11 t368.length co11, .int .i64 t371] 38 (0,0)) (by exact BK374.out) hb);have n4_:=Aside0.mk (blk_below (g:=gb395) (o := .cells #[.int .i64 t388, .slice Ao64 t389.length co64, .int .i64 t392] 38 (0,0)) (by exact BK395.out) hb);have n5_:=Aside0.mk (below_step (by exact HB.out) hb);clear HO_375001;clear HO_396001;clear BK374;clear BK395;clear HB;have HO_375001:=n0_;have HO_396001:=n1_;have HO407:=n2_;have BK374:=n3_;have BK395:=n4_;have HB:=n5_;clear n0_ n1_ n2_ n3_ n4_ n5_;(try clear hb);(try clear ho0)) | ((with_reducible refine gate_dst (N:=25) rfl ?_);(try (refine gate_guard (by rfl) ?_;dsimp only));refine box_event ?hg (N:=25) ?hd (cs:=#[.int .i64 0, .slice none 0 0, .int .i64 0]) (t:=38) ?hr ?_;(case hd => rfl);(case hg => rfl);(case hr => (go_simp;done));intro gb410 hg w114 hbox hb;have n0_:=Aside0.mk (Kd.R_below (by exact HO_375001.out) hb);have n1_:=Aside0.mk (Kd.R_below (by exact HO_396001.out) hb);have n2_:=Aside0.mk (Kd.R_below (by exact HO407.out) hb);have n3_:=Aside0.mk (blk_below (g:=gb374) (o := .cells #[.int .i64 t367, .slice Ao11 t368.length co11, .int .i64 t371] 38 (0,0)) (by exact BK374.out) hb);have n4_:=Aside0.mk (blk_below (g:=gb395) (o := .cells #[.int .i64 t388, .slice Ao64 t389.length co64, .int .i64 t392] 38 (0,0)) (by exact BK395.out) hb);have n5_:=Aside0.mk (below_step (by exact HB.out) hb);have n6_:=Aside0.mk (hbox);have n7_:=Aside0.mk ((by rw [hg];exact (below_size (by exact HB.out)) : w.heap.size ≤ gb410));have n8_:=Aside0.mk ((by rw [hg];exact (below_size (by exact HB.out)) : w.heap.size ≤ gb410));have n9_:=Aside0.mk ((by rw [hg];exact Nat.ne_of_lt (blk_lt (g:=gb374) (o := .cells #[.int .i64 t367, .slice Ao11 t368.length co11, .int .i64 t371] 38 (0,0)) (by exact BK374.out)) : gb374 ≠ gb410));have n10_:=Aside0.mk ((by rw [hg];exact Nat.ne_of_gt (blk_lt (g:=gb374) (o := .cells #[.int .i64 t367, .slice Ao11 t368.length co11, .int .i64 t371] 38 (0,0)) (by exact BK374.out)) : gb410 ≠ gb374));have n11_:=Aside0.mk ((by rw [hg];exact Nat.ne_of_lt (blk_lt (g:=gb395) (o := .cells #[.int .i64 t388, .slice Ao64 t389.length co64, .int .i64 t392] 38 (0,0)) (by exact BK395.out)) : gb395 ≠ gb410));have n12_:=Aside0.mk ((by rw [hg];exact Nat.ne_of_gt (blk_lt (g:=gb395) (o := .cells #[.int .i64 t388, .slice Ao64 t389.length co64, .int .i64 t392] 38 (0,0)) (by exact BK395.out)) : gb410 ≠ gb395));clear HO_375001;clear HO_396001;clear HO407;clear BK374;clear BK395;clear HB;have HO_375001:=n0_;have HO_396001:=n1_;have HO407:=n2_;have BK374:=n3_;have BK395:=n4_;have HB:=n5_;have BK410:=n6_;have GW410:=n7_;have GE410:=n8_;have NB374_410:=n9_;have NB410_374:=n10_;have NB395_410:=n11_;have NB410_395:=n12_;clear n0_ n1_ n2_ n3_ n4_ n5_ n6_ n7_ n8_ n9_ n10_ n11_ n12_;clear hb hbox hg;have hnb115:=NB410_374.out;have hnc115:=NB374_410.out;have hnb116:=NB410_395.out;have hnc116:=NB395_410.out;have hcz117_0 : w114.cell? ⟨gb410,0,none⟩ = some (.int .i64 0):=(blk_cell BK410.out 0).trans rfl;have hcz117_1 : w114.cell? ⟨gb410,1,none⟩ = some (.slice none 0 0):=(blk_cell BK410.out 1).trans rfl;have hcz117_2 : w114.cell? ⟨gb410,2,none⟩ = some (.int .i64 0):=(blk_cell BK410.out 2).trans rfl;have hfz117_0:=blk_frozen BK410.out 0;have hfz117_1:=blk_frozen BK410.out 1;have hfz117_2:=blk_frozen BK410.out 2;obtain ⟨Ao118,co118,eo118⟩ := Kd.R_slice HO407.out;subst eo118) | ((with_reducible refine gate_callee (f:=24) rfl ?_);refine goesL_ (some 184) rfl rfl Try.func24 (by kernel_rfl) rfl #[.agg #[.int .i64 t404, .slice Ao118 t405.length co118, .int .i64 t408], .int .i64 t409] rfl (by (try simp only [List.map_toArray,List.map_cons,List.map_nil]);rfl) ?_;(with_reducible refine (impl_RateOn.calls kj69 t404 _ _ t405 t408 t409 t411 t412 _ ?side1 ?side2 A92.out).mono ?_);(case side1 => refine (Kd.R_reads' (e:=51) (base:=w.heap.size) (ok:=fun k_ => ((True ∧ some k_ ≠ (.slice Ao11 t368.length co11 : Value).ownBlock) ∧ some k_ ≠ (.slice Ao64 t389.length co64 : Value).ownBlock)) (n:=t405.length) (c:=co118) ?_).2.2;exact (by exact (Kd.R_mono (Kd.R_far (p:=⟨gb410,2,none⟩) (Kd.R_far (p:=⟨gb410,1,none⟩) (Kd.R_far (p:=⟨gb410,0,none⟩) (Kd.R_types HO407.out BK410.out (by decide)) (fun _ hk => hk.2) (.int .i64 t404)) (fun _ hk => hk.2) (.slice Ao118 t405.length co118)) (fun _ hk => hk.2) (.int .i64 t408)) (fun _ h_ => h_.1))));(case side2 => exact (Kd.R_reads' HO407.out).2.1);rintro e w119 ⟨rfl,hb⟩;refine ⟨_,rfl, ?_⟩;have n0_:=Aside0.mk (Kd.R_below (by exact (Kd.R_mono (Kd.R_far (p:=⟨gb410,2,none⟩) (Kd.R_far (p:=⟨gb410,1,none⟩) (Kd.R_far (p:=⟨gb410,0,none⟩) (Kd.R_types HO_375001.out BK410.out (by decide)) (fun _ hk => hk.2) (.int .i64 t404)) (fun _ hk => hk.2) (.slice Ao118 t405.length co118)) (fun _ hk => hk.2) (.int .i64 t408)) (fun _ h_ => h_.1))) hb);have n1_:=Aside0.mk (Kd.R_below (by exact (Kd.R_mono (Kd.R_far (p:=⟨gb410,2,none⟩) (Kd.R_far (p:=⟨gb410,1,none⟩) (Kd.R_far (p:=⟨gb410,0,none⟩) (Kd.R_types HO_396001.out BK410.out (by decide)) (fun _ hk => hk.2) (.int .i64 t404)) (fun _ hk => hk.2) (.slice Ao118 t405.length co118)) (fun _ hk => hk.2) (.int .i64 t408)) (fun _ h_ => h_.1))) hb);have n2_:=Aside0.mk (Kd.R_below (by exact (Kd.R_mono (Kd.R_far (p:=⟨gb410,2,none⟩) (Kd.R_far (p:=⟨gb410,1,none⟩) (Kd.R_far (p:=⟨gb410,0,none⟩) (Kd.R_types HO407.out BK410.out (by decide)) (fun _ hk => hk.2) (.int .i64 t404)) (fun _ hk => hk.2) (.slice Ao118 t405.length co118)) (fun _ hk => hk.2) (.int .i64 t408)) (fun _ h_ => h_.1))) hb);have n3_:=Aside0.mk (blk_below (g:=gb374) (o := .cells #[.int .i64 t367, .slice Ao11 t368.length co11, .int .i64 t371] 38 (0,0)) (by refine blk_far ?_ NB374_410.out _;refine blk_far ?_ NB374_410.out _;refine blk_far ?_ NB374_410.out _;exact BK374.out) hb);have n4_:=Aside0.mk (blk_below (g:=gb395) (o := .cells #[.int .i64 t388, .slice Ao64 t389.length co64, .int .i64 t392] 38 (0,0)) (by refine blk_far ?_ NB395_410.out _;refine blk_far ?_ NB395_410.out _;refine blk_far ?_ NB395_410.out _;exact BK395.out) hb);have n5_:=Aside0.mk (blk_below (g:=gb410) (o := .cells #[.int .i64 t404, .slice Ao118 t405.length co118, .int .i64 t408] 38 (0,0)) (by refine blk_put (cs:=#[.int .i64 t404, .slice Ao118 t405.length co118, .int .i64 0]) ?_ 2 _ rfl;refine blk_put (cs:=#[.int .i64 t404, .slice none 0 0, .int .i64 0]) ?_ 1 _ rfl;refine blk_put (cs:=#[.int .i64 0, .slice none 0 0, .int .i64 0]) ?_ 0 _ rfl;exact BK410.out) hb);have n6_:=Aside0.mk (below_step (by repeat ((with_reducible first | exact HB.out | refine below_set ?_ GE410.out))) hb);clear HO_375001;clear HO_396001;clear HO407;clear BK374;clear BK395;clear BK410;clear HB;have HO_375001:=n0_;have HO_396001:=n1_;have HO407:=n2_;have BK374:=n3_;have BK395:=n4_;have BK410:=n5_;have HB:=n6_;clear n0_ n1_ n2_ n3_ n4_ n5_ n6_;(try clear hb);have hcz120_0 : w119.cell? ⟨gb410,0,none⟩ = some (.int .i64 t404):=(blk_cell BK410.out 0).trans rfl;have hcz120_1 : w119.cell? ⟨gb410,1,none⟩ = some (.slice Ao118 t405.length co118):=(blk_cell BK410.out 1).trans rfl;have hcz120_2 : w119.cell? ⟨gb410,2,none⟩ = some (.int .i64 t408):=(blk_cell BK410.out 2).trans rfl;have hfz120_0:=blk_frozen BK410.out 0;have hfz120_1:=blk_frozen BK410.out 1;have hfz120_2:=blk_frozen BK410.out 2) | ((with_reducible refine gate_callee (f:=25) rfl ?_);refine goesL_ (some 190) rfl rfl Try.func25 (by kernel_rfl) rfl #[.agg #[.int .i64 t404, .slice Ao118 t405.length co118, .int .i64 t408], .int .i64 t409] rfl (by (try simp only [List.map_toArray,List.map_cons,List.map_nil]);rfl) ?_;(with_reducible refine (impl_StepOn.calls kj69 t404 _ _ t405 t408 t409 t413 t414 _ ?side1 ?side2 A93.out).mono ?_);(case side1 => repeat (exact (Kd.R_reads' HO407.out).2.2));(case side2 => exact (Kd.R_reads' HO407.out).2.1);rintro e w121 ⟨rfl,hb⟩;refine ⟨_,rfl, ?_⟩;have n0_:=Aside0.mk (Kd.R_below (by exact HO_375001.out) hb);have n1_:=Aside0.mk (Kd.R_below (by exact HO_396001.out) hb);have n2_:=Aside0.mk (Kd.R_below (by exact HO407.out) hb);have n3_:=Aside0.mk (blk_below (g:=gb374) (o := .cells #[.int .i64 t367, .slice Ao11 t368.length co11, .int .i64 t371] 38 (0,0)) (by exact BK374.out) hb);have n4_:=Aside0.mk (blk_below (g:=gb395) (o := .cells #[.int .i64 t388, .slice Ao64 t389.length co64, .int .i64 t392] 38 (0,0)) (by exact BK395.out) hb);have n5_:=Aside0.mk (blk_below (g:=gb410) (o := .cells #[.int .i64 t404, .slice Ao118 t405.length co118, .int .i64 t408] 38 (0,0)) (by exact BK410.out) hb);have n6_:=Aside0.mk (below_step (by exact HB.out) hb);clear HO_375001;clear HO_396001;clear HO407;clear BK374;clear BK395;clear BK410;clear HB;have HO_375001:=n0_;have HO_396001:=n1_;have HO407:=n2_;have BK374:=n3_;have BK395:=n4_;have BK410:=n5_;have HB:=n6_;clear n0_ n1_ n2_ n3_ n4_ n5_ n6_;(try clear hb);have hcz122_0 : w121.cell? ⟨gb410,0,none⟩ = some (.int .i64 t404):=(blk_cell BK410.out 0).trans rfl;have hcz122_1 : w121.cell? ⟨gb410,1,none⟩ = some (.slice Ao118 t405.length co118):=(blk_cell BK410.out 1).trans rfl;have hcz122_2 : w121.cell? ⟨gb410,2,none⟩ = some (.int .i64 t408):=(blk_cell BK410.out 2).trans rfl;have hfz122_0:=blk_frozen BK410.out 0;have hfz122_1:=blk_frozen BK410.out 1;have hfz122_2:=blk_frozen BK410.out 2) | ((with_reducible refine gate_callee (f:=26) rfl ?_);refine goesL_ (some 196) rfl rfl Try.func26 (by kernel_rfl) rfl #[.agg #[.int .i64 t404, .slice Ao118 t405.length co118, .int .i64 t408], .int .i64 t409] rfl (by (try simp only [List.map_toArray,List.map_cons,List.map_nil]);rfl) ?_;(with_reducible refine (spec_RateOn.calls kj69 t404 _ _ t405 t408 t409 t415 t416 _ ?side1 ?side2 A94.out).mono ?_);(case side1 => repeat (exact (Kd.R_reads' HO407.out).2.2));(case side2 => exact (Kd.R_reads' HO407.out).2.1);rintro e w123 ⟨rfl,hb⟩;refine ⟨_,rfl, ?_⟩;have n0_:=Aside0.mk (Kd.R_below (by exact HO_375001.out) hb);have n1_:=Aside0.mk (Kd.R_below (by exact HO_396001.out) hb);have n2_:=Aside0.mk (Kd.R_below (by exact HO407.out) hb);have n3_:=Aside0.mk (blk_below (g:=gb374) (o := .cells #[.int .i64 t367, .slice Ao11 t368.length co11, .int .i64 t371] 38 (0,0)) (by exact BK374.out) hb);have n4_:=Aside0.mk (blk_below (g:=gb395) (o := .cells #[.int .i64 t388, .slice Ao64 t389.length co64, .int .i64 t392] 38 (0,0)) (by exact BK395.out) hb);have n5_:=Aside0.mk (blk_below (g:=gb410) (o := .cells #[.int .i64 t404, .slice Ao118 t405.length co118, .int .i64 t408] 38 (0,0)) (by exact BK410.out) hb);have n6_:=Aside0.mk (below_step (by exact HB.out) hb);clear HO_375001;clear HO_396001;clear HO407;clear BK374;clear BK395;clear BK410;clear HB;have HO_375001:=n0_;have HO_396001:=n1_;have HO407:=n2_;have BK374:=n3_;have BK395:=n4_;have BK410:=n5_;have HB:=n6_;clear n0_ n1_ n2_ n3_ n4_ n5_ n6_;(try clear hb);have hcz124_0 : w123.cell? ⟨gb410,0,none⟩ = some (.int .i64 t404):=(blk_cell BK410.out 0).trans rfl;have hcz124_1 : w123.cell? ⟨gb410,1,none⟩ = some (.slice Ao118 t405.length co118):=(blk_cell BK410.out 1).trans rfl;have hcz124_2 : w123.cell? ⟨gb410,2,none⟩ = some (.int .i64 t408):=(blk_cell BK410.out 2).trans rfl;have hfz124_0:=blk_frozen BK410.out 0;have hfz124_1:=blk_frozen BK410.out 1;have hfz124_2:=blk_frozen BK410.out 2) | ((with_reducible refine gate_callee (f:=27) rfl ?_);refine goesL_ (some 202) rfl rfl Try.func27 (by kernel_rfl) rfl #[.agg #[.int .i64 t404, .slice Ao118 t405.length co118, .int .i64 t408], .int .i64 t409] rfl (by (try simp only [List.map_toArray,List.map_cons,List.map_nil]);rfl) ?_;(with_reducible refine (spec_StepOn.calls kj69 t404 _ _ t405 t408 t409 t417 t418 _ ?side1 ?side2 A95.out).mono ?_);(case side1 => repeat (exact (Kd.R_reads' HO407.out).2.2));(case side2 => exact (Kd.R_reads' HO407.out).2.1);rintro e w125 ⟨rfl,hb⟩;refine ⟨_,rfl, ?_⟩;have n0_:=Aside0.mk (Kd.R_below (by exact HO_375001.out) hb);have n1_:=Aside0.mk (Kd.R_below (by exact HO_396001.out) hb);have n2_:=Aside0.mk (Kd.R_below (by exact HO407.out) hb);have n3_:=Aside0.mk (blk_below (g:=gb374) (o := .cells #[.int .i64 t367, .slice Ao11 t368.length co11, .int .i64 t371] 38 (0,0)) (by exact BK374.out) hb);have n4_:=Aside0.mk (blk_below (g:=gb395) (o := .cells #[.int .i64 t388, .slice Ao64 t389.length co64, .int .i64 t392] 38 (0,0)) (by exact BK395.out) hb);have n5_:=Aside0.mk (blk_below (g:=gb410) (o := .cells #[.int .i64 t404, .slice Ao118 t405.length co118, .int .i64 t408] 38 (0,0)) (by exact BK410.out) hb);have n6_:=Aside0.mk (below_step (by exact HB.out) hb);clear HO_375001;clear HO_396001;clear HO407;clear BK374;clear BK395;clear BK410;clear HB;have HO_375001:=n0_;have HO_396001:=n1_;have HO407:=n2_;have BK374:=n3_;have BK395:=n4_;have BK410:=n5_;have HB:=n6_;clear n0_ n1_ n2_ n3_ n4_ n5_ n6_;(try clear hb)))
                 go_ret
                 exact ⟨by rfl,by exact HB.out⟩
               ·rw [if_neg c112] at H
                have c112b0 : (t414 != t416) = false:=by simpa using c112
                (try (have c112b1 : decide (t414 = t416) = true:=by simpa using c112))
                (try (have c112b2 : (t414 == t416) = true:=by simpa using c112))
                clear c112
                by_cases c126 : t412 = true
                ·subst c126
                 have H1 : (if t413 < 0 then (if t411 = 0 then (some true) else (if t413 ≥ 0 then (if 0 ≤ t413 then (if t413 < (t405.length : Int) then (some (t411 == ((rd_T51 t405 t413).f1))) else (none)) else (none)) else (some false))) else (if t413 ≥ 0 then (if 0 ≤ t413 then (if t413 < (t405.length : Int) then (some (t411 == ((rd_T51 t405 t413).f1))) else (none)) else (none)) else (some false))) = some r:=by rw [if_pos rfl] at H;exact H
                 clear H
                 have H:=H1
                 clear H1
                 by_cases c127 : t413 < 0
                 ·rw [if_pos c127] at H
                  have c127b0 : decide (t413 < 0) = true:=decide_eq_true c127
                  clear c127
                  by_cases c128 : t411 = 0
                  ·rw [if_pos c128] at H
                   have c128b0 : (t411 == 0) = true:=beq_iff_eq.mpr c128
                   have c128b1 : (t411 != 0) = false:=bne_eq_false_iff_eq.mpr c128
                   clear c128
                   obtain rfl:=Option.some.inj H
                   as_aux_lemma =>
                    go_wp2_with (first | ((with_reducible refine gate_callee (f:=23) rfl ?_);refine goesL_ (some 178) rfl rfl Try.func23 (by kernel_rfl) rfl #[.slice A0 l0.length c0] rfl (by (try simp only [List.map_toArray,List.map_cons,List.map_nil]);rfl) ?_;(with_reducible refine (spec_DrawRateOn.calls kj69 _ _ l0 t404 t405 t408 t409 _ ?side1 ?side2 A91.out).mono ?_);(case side1 => repeat (exact (Kd.C_below HR0.out HB.out)));(case side2 => exact HC0.out);rintro e w129 ⟨v406,rfl,ho0,hb⟩;refine ⟨_,rfl, ?_⟩;have n0_:=Aside0.mk (Kd.R_elder' (by exact HO_375001.out) (Kd.R_base ho0) hb);have n1_:=Aside0.mk (Kd.R_elder' (by exact HO_396001.out) (Kd.R_base ho0) hb);have n2_:=Aside0.mk (Kd.R_lower (Kd.R_new' (Kd.R_new' ho0 (Kd.R_lt (by exact HO_375001.out))) (Kd.R_lt (by exact HO_396001.out))) (below_size (by exact HB.out)));have n3_:=Aside0.mk (blk_below (g:=gb374) (o := .cells #[.int .i64 t367, .slice Ao11 t368.length co11, .int .i64 t371] 38 (0,0)) (by exact BK374.out) hb);have n4_:=Aside0.mk (blk_below (g:=gb395) (o := .cells #[.int .i64 t388, .slice Ao64 t389.length co64, .int .i64 t392] 38 (0,0)) (by exact BK395.out) hb);have n5_:=Aside0.mk (below_step (by exact HB.out) hb);clear HO_375001;clear HO_396001;clear BK374;clear BK395;clear HB;have HO_375001:=n0_;have HO_396001:=n1_;have HO407:=n2_;have BK374:=n3_;have BK395:=n4_;have HB:=n5_;clear n0_ n1_ n2_ n3_ n4_ n5_;(try clear hb);(try clear ho0)) | ((with_reducible refine gate_dst (N:=25) rfl ?_);(try (refine gate_guard (by rfl) ?_;dsimp only));refine box_event ?hg (N:=25) ?hd (cs:=#[.int .i64 0, .slice none 0 0, .int .i64 0]) (t:=38) ?hr ?_;(case hd => rfl);(case hg => rfl);(case hr => (go_simp;done));intro gb410 hg w130 hbox hb;have n0_:=Aside0.mk (Kd.R_below (by exact HO_375001.out) hb);have n1_:=Aside0.mk (Kd.R_below (by exact HO_396001.out) hb);have n2_:=Aside0.mk (Kd.R_below (by exact HO407.out) hb);have n3_:=Aside0.mk (blk_below (g:=gb374) (o := .cells #[.int .i64 t367, .slice Ao11 t368.length co11, .int .i64 t371] 38 (0,0)) (by exact BK374.out) hb);have n4_:=Aside0.mk (blk_below (g:=gb395) (o := .cells #[.int .i64 t388, .slice Ao64 t389.length co64, .int .i64 t392] 38 (0,0)) (by exact BK395.out) hb);have n5_:=Aside0.mk (below_step (by exact HB.out) hb);have n6_:=Aside0.mk (hbox);have n7_:=Aside0.mk ((by rw [hg];exact (below_size (by exact HB.out)) : w.heap.size ≤ gb410));have n8_:=Aside0.mk ((by rw [hg];exact (below_size (by exact HB.out)) : w.heap.size ≤ gb410));have n9_:=Aside0.mk ((by rw [hg];exact Nat.ne_of_lt (blk_lt (g:=gb374) (o := .cells #[.int .i64 t367, .slice Ao11 t368.length co11, .int .i64 t371] 38 (0,0)) (by exact BK374.out)) : gb374 ≠ gb410));have n10_:=Aside0.mk ((by rw [hg];exact Nat.ne_of_gt (blk_lt (g:=gb374) (o := .cells #[.int .i64 t367, .slice Ao11 t368.length co11, .int .i64 t371] 38 (0,0)) (by exact BK374.out)) : gb410 ≠ gb374));have n11_:=Aside0.mk ((by rw [hg];exact Nat.ne_of_lt (blk_lt (g:=gb395) (o := .cells #[.int .i64 t388, .slice Ao64 t389.length co64, .int .i64 t392] 38 (0,0)) (by exact BK395.out)) : gb395 ≠ gb410));have n12_:=Aside0.mk ((by rw [hg];exact Nat.ne_of_gt (blk_lt (g:=gb395) (o := .cells #[.int .i64 t388, .slice Ao64 t389.length co64, .int .i64 t392] 38 (0,0)) (by exact BK395.out)) : gb410 ≠ gb395));clear HO_375001;clear HO_396001;clear HO407;clear BK374;clear BK395;clear HB;have HO_375001:=n0_;have HO_396001:=n1_;have HO407:=n2_;have BK374:=n3_;have BK395:=n4_;have HB:=n5_;have BK410:=n6_;have GW410:=n7_;have GE410:=n8_;have NB374_410:=n9_;have NB410_374:=n10_;have NB395_410:=n11_;have NB410_395:=n12_;clear n0_ n1_ n2_ n3_ n4_ n5_ n6_ n7_ n8_ n9_ n10_ n11_ n12_;clear hb hbox hg;have hnb131:=NB410_374.out;have hnc131:=NB374_410.out;have hnb132:=NB410_395.out;have hnc132:=NB395_410.out;have hcz133_0 : w130.cell? ⟨gb410,0,none⟩ = some (.int .i64 0):=(blk_cell BK410.out 0).trans rfl;have hcz133_1 : w130.cell? ⟨gb410,1,none⟩ = some (.slice none 0 0):=(blk_cell BK410.out 1).trans rfl;have hcz133_2 : w130.cell? ⟨gb410,2,none⟩ = some (.int .i64 0):=(blk_cell BK410.out 2).trans rfl;have hfz133_0:=blk_frozen BK410.out 0;have hfz133_1:=blk_frozen BK410.out 1;have hfz133_2:=blk_frozen BK410.out 2;obtain ⟨Ao134,co134,eo134⟩ := Kd.R_slice HO407.out;subst eo134) | ((with_reducible refine gate_callee (f:=24) rfl ?_);refine goesL_ (some 184) rfl rfl Try.func24 (by kernel_rfl) rfl #[.agg #[.int .i64 t404, .slice Ao134 t405.length co134, .int .i64 t408], .int .i64 t409] rfl (by (try simp only [List.map_toArray,List.map_cons,List.map_nil]);rfl) ?_;(with_reducible refine (impl_RateOn.calls kj69 t404 _ _ t405 t408 t409 t411 true _ ?side1 ?side2 A92.out).mono ?_);(case side1 => refine (Kd.R_reads' (e:=51) (base:=w.heap.size) (ok:=fun k_ => ((True ∧ some k_ ≠ (.slice Ao11 t368.length co11 : Value).ownBlock) ∧ some k_ ≠ (.slice Ao64 t389.length co64 : Value).ownBlock)) (n:=t405.length) (c:=co134) ?_).2.2;exact (by exact (Kd.R_mono (Kd.R_far (p:=⟨gb410,2,none⟩) (Kd.R_far (p:=⟨gb410,1,none⟩) (Kd.R_far (p:=⟨gb410,0,none⟩) (Kd.R_types HO407.out BK410.out (by decide)) (fun _ hk => hk.2) (.int .i64 t404)) (fun _ hk => hk.2) (.slice Ao134 t405.length co134)) (fun _ hk => hk.2) (.int .i64 t408)) (fun _ h_ => h_.1))));(case side2 => exact (Kd.R_reads' HO407.out).2.1);rintro e w135 ⟨rfl,hb⟩;refine ⟨_,rfl, ?_⟩;have n0_:=Aside0.mk (Kd.R_below (by exact (Kd.R_mono (Kd.R_far (p:=⟨gb410,2,none⟩) (Kd.R_far (p:=⟨gb410,1,none⟩) (Kd.R_far (p:=⟨gb410,0,none⟩) (Kd.R_types HO_375001.out BK410.out (by decide)) (fun _ hk => hk.2) (.int .i64 t404)) (fun _ hk => hk.2) (.slice Ao134 t405.length co134)) (fun _ hk => hk.2) (.int .i64 t408)) (fun _ h_ => h_.1))) hb);have n1_:=Aside0.mk (Kd.R_below (by exact (Kd.R_mono (Kd.R_far (p:=⟨gb410,2,none⟩) (Kd.R_far (p:=⟨gb410,1,none⟩) (Kd.R_far (p:=⟨gb410,0,none⟩) (Kd.R_types HO_396001.out BK410.out (by decide)) (fun _ hk => hk.2) (.int .i64 t404)) (fun _ hk => hk.2) (.slice Ao134 t405.length co134)) (fun _ hk => hk.2) (.int .i64 t408)) (fun _ h_ => h_.1))) hb);have n2_:=Aside0.mk (Kd.R_below (by exact (Kd.R_mono (Kd.R_far (p:=⟨gb410,2,none⟩) (Kd.R_far (p:=⟨gb410,1,none⟩) (Kd.R_far (p:=⟨gb410,0,none⟩) (Kd.R_types HO407.out BK410.out (by decide)) (fun _ hk => hk.2) (.int .i64 t404)) (fun _ hk => hk.2) (.slice Ao134 t405.length co134)) (fun _ hk => hk.2) (.int .i64 t408)) (fun _ h_ => h_.1))) hb);have n3_:=Aside0.mk (blk_below (g:=gb374) (o := .cells #[.int .i64 t367, .slice Ao11 t368.length co11, .int .i64 t371] 38 (0,0)) (by refine blk_far ?_ NB374_410.out _;refine blk_far ?_ NB374_410.out _;refine blk_far ?_ NB374_410.out _;exact BK374.out) hb);have n4_:=Aside0.mk (blk_below (g:=gb395) (o := .cells #[.int .i64 t388, .slice Ao64 t389.length co64, .int .i64 t392] 38 (0,0)) (by refine blk_far ?_ NB395_410.out _;refine blk_far ?_ NB395_410.out _;refine blk_far ?_ NB395_410.out _;exact BK395.out) hb);have n5_:=Aside0.mk (blk_below (g:=gb410) (o := .cells #[.int .i64 t404, .slice Ao134 t405.length co134, .int .i64 t408] 38 (0,0)) (by refine blk_put (cs:=#[.int .i64 t404, .slice Ao134 t405.length co134, .int .i64 0]) ?_ 2 _ rfl;refine blk_put (cs:=#[.int .i64 t404, .slice none 0 0, .int .i64 0]) ?_ 1 _ rfl;refine blk_put (cs:=#[.int .i64 0, .slice none 0 0, .int .i64 0]) ?_ 0 _ rfl;exact BK410.out) hb);have n6_:=Aside0.mk (below_step (by repeat ((with_reducible first | exact HB.out | refine below_set ?_ GE410.out))) hb);clear HO_375001;clear HO_396001;clear HO407;clear BK374;clear BK395;clear BK410;clear HB;have HO_375001:=n0_;have HO_396001:=n1_;have HO407:=n2_;have BK374:=n3_;have BK395:=n4_;have BK410:=n5_;have HB:=n6_;clear n0_ n1_ n2_ n3_ n4_ n5_ n6_;(try clear hb);have hcz136_0 : w135.cell? ⟨gb410,0,none⟩ = some (.int .i64 t404):=(blk_cell BK410.out 0).trans rfl;have hcz136_1 : w135.cell? ⟨gb410,1,none⟩ = some (.slice Ao134 t405.length co134):=(blk_cell BK410.out 1).trans rfl;have hcz136_2 : w135.cell? ⟨gb410,2,none⟩ = some (.int .i64 t408):=(blk_cell BK410.out 2).trans rfl;have hfz136_0:=blk_frozen BK410.out 0;have hfz136_1:=blk_frozen BK410.out 1;have hfz136_2:=blk_frozen BK410.out 2) | ((with_reducible refine gate_callee (f:=25) rfl ?_);refine goesL_ (some 190) rfl rfl Try.func25 (by kernel_rfl) rfl #[.agg #[.int .i64 t404, .slice Ao134 t405.length co134, .int .i64 t408], .int .i64 t409] rfl (by (try simp only [List.map_toArray,List.map_cons,List.map_nil]);rfl) ?_;(with_reducible refine (impl_StepOn.calls kj69 t404 _ _ t405 t408 t409 t413 t414 _ ?side1 ?side2 A93.out).mono ?_);(case side1 => repeat (exact (Kd.R_reads' HO407.out).2.2));(case side2 => exact (Kd.R_reads' HO407.out).2.1);rintro e w137 ⟨rfl,hb⟩;refine ⟨_,rfl, ?_⟩;have n0_:=Aside0.mk (Kd.R_below (by exact HO_375001.out) hb);have n1_:=Aside0.mk (Kd.R_below (by exact HO_396001.out) hb);have n2_:=Aside0.mk (Kd.R_below (by exact HO407.out) hb);have n3_:=Aside0.mk (blk_below (g:=gb374) (o := .cells #[.int .i64 t367, .slice Ao11 t368.length co11, .int .i64 t371] 38 (0,0)) (by exact BK374.out) hb);have n4_:=Aside0.mk (blk_below (g:=gb395) (o := .cells #[.int .i64 t388, .slice Ao64 t389.length co64, .int .i64 t392] 38 (0,0)) (by exact BK395.out) hb);have n5_:=Aside0.mk (blk_below (g:=gb410) (o := .cells #[.int .i64 t404, .slice Ao134 t405.length co134, .int .i64 t408] 38 (0,0)) (by exact BK410.out) hb);have n6_:=Aside0.mk (below_step (by exact HB.out) hb);clear HO_375001;clear HO_396001;clear HO407;clear BK374;clear BK395;clear BK410;clear HB;have HO_375001:=n0_;have HO_396001:=n1_;have HO407:=n2_;have BK374:=n3_;have BK395:=n4_;have BK410:=n5_;have HB:=n6_;clear n0_ n1_ n2_ n3_ n4_ n5_ n6_;(try clear hb);have hcz138_0 : w137.cell? ⟨gb410,0,none⟩ = some (.int .i64 t404):=(blk_cell BK410.out 0).trans rfl;have hcz138_1 : w137.cell? ⟨gb410,1,none⟩ = some (.slice Ao134 t405.length co134):=(blk_cell BK410.out 1).trans rfl;have hcz138_2 : w137.cell? ⟨gb410,2,none⟩ = some (.int .i64 t408):=(blk_cell BK410.out 2).trans rfl;have hfz138_0:=blk_frozen BK410.out 0;have hfz138_1:=blk_frozen BK410.out 1;have hfz138_2:=blk_frozen BK410.out 2) | ((with_reducible refine gate_callee (f:=26) rfl ?_);refine goesL_ (some 196) rfl rfl Try.func26 (by kernel_rfl) rfl #[.agg #[.int .i64 t404, .slice Ao134 t405.length co134, .int .i64 t408], .int .i64 t409] rfl (by (try simp only [List.map_toArray,List.map_cons,List.map_nil]);rfl) ?_;(with_reducible refine (spec_RateOn.calls kj69 t404 _ _ t405 t408 t409 t415 t416 _ ?side1 ?side2 A94.out).mono ?_);(case side1 => repeat (exact (Kd.R_reads' HO407.out).2.2));(case side2 => exact (Kd.R_reads' HO407.out).2.1);rintro e w139 ⟨rfl,hb⟩;refine ⟨_,rfl, ?_⟩;have n0_:=Aside0.mk (Kd.R_below (by exact HO_375001.out) hb);have n1_:=Aside0.mk (Kd.R_below (by exact HO_396001.out) hb);have n2_:=Aside0.mk (Kd.R_below (by exact HO407.out) hb);have n3_:=Aside0.mk (blk_below (g:=gb374) (o := .cells #[.int .i64 t367, .slice Ao11 t368.length co11, .int .i64 t371] 38 (0,0)) (by exact BK374.out) hb);have n4_:=Aside0.mk (blk_below (g:=gb395) (o := .cells #[.int .i64 t388, .slice Ao64 t389.length co64, .int .i64 t392] 38 (0,0)) (by exact BK395.out) hb);have n5_:=Aside0.mk (blk_below (g:=gb410) (o := .cells #[.int .i64 t404, .slice Ao134 t405.length co134, .int .i64 t408] 38 (0,0)) (by exact BK410.out) hb);have n6_:=Aside0.mk (below_step (by exact HB.out) hb);clear HO_375001;clear HO_396001;clear HO407;clear BK374;clear BK395;clear BK410;clear HB;have HO_375001:=n0_;have HO_396001:=n1_;have HO407:=n2_;have BK374:=n3_;have BK395:=n4_;have BK410:=n5_;have HB:=n6_;clear n0_ n1_ n2_ n3_ n4_ n5_ n6_;(try clear hb);have hcz140_0 : w139.cell? ⟨gb410,0,none⟩ = some (.int .i64 t404):=(blk_cell BK410.out 0).trans rfl;have hcz140_1 : w139.cell? ⟨gb410,1,none⟩ = some (.slice Ao134 t405.length co134):=(blk_cell BK410.out 1).trans rfl;have hcz140_2 : w139.cell? ⟨gb410,2,none⟩ = some (.int .i64 t408):=(blk_cell BK410.out 2).trans rfl;have hfz140_0:=blk_frozen BK410.out 0;have hfz140_1:=blk_frozen BK410.out 1;have hfz140_2:=blk_frozen BK410.out 2) | ((with_reducible refine gate_callee (f:=27) rfl ?_);refine goesL_ (some 202) rfl rfl Try.func27 (by kernel_rfl) rfl #[.agg #[.int .i64 t404, .slice Ao134 t405.length co134, .int .i64 t408], .int .i64 t409] rfl (by (try simp only [List.map_toArray,List.map_cons,List.map_nil]);rfl) ?_;(with_reducible refine (spec_StepOn.calls kj69 t404 _ _ t405 t408 t409 t417 t418 _ ?side1 ?side2 A95.out).mono ?_);(case side1 => repeat (exact (Kd.R_reads' HO407.out).2.2));(case side2 => exact (Kd.R_reads' HO407.out).2.1);rintro e w141 ⟨rfl,hb⟩;refine ⟨_,rfl, ?_⟩;have n0_:=Aside0.mk (Kd.R_below (by exact HO_375001.out) hb);have n1_:=Aside0.mk (Kd.R_below (by exact HO_396001.out) hb);have n2_:=Aside0.mk (Kd.R_below (by exact HO407.out) hb);have n3_:=Aside0.mk (blk_below (g:=gb374) (o := .cells #[.int .i64 t367, .slice Ao11 t368.length co11, .int .i64 t371] 38 (0,0)) (by exact BK374.out) hb);have n4_:=Aside0.mk (blk_below (g:=gb395) (o := .cells #[.int .i64 t388, .slice Ao64 t389.length co64, .int .i64 t392] 38 (0,0)) (by exact BK395.out) hb);have n5_:=Aside0.mk (blk_below (g:=gb410) (o := .cells #[.int .i64 t404, .slice Ao134 t405.length co134, .int .i64 t408] 38 (0,0)) (by exact BK410.out) hb);have n6_:=Aside0.mk (below_step (by exact HB.out) hb);clear HO_375001;clear HO_396001;clear HO407;clear BK374;clear BK395;clear BK410;clear HB;have HO_375001:=n0_;have HO_396001:=n1_;have HO407:=n2_;have BK374:=n3_;have BK395:=n4_;have BK410:=n5_;have HB:=n6_;clear n0_ n1_ n2_ n3_ n4_ n5_ n6_;(try clear hb)))
                    go_ret
                    exact ⟨by rfl,by exact HB.out⟩
                  ·rw [if_neg c128] at H
                   have c128b0 : (t411 == 0) = false:=beq_eq_false_iff_ne.mpr c128
                   have c128b1 : (t411 != 0) = true:=bne_iff_ne.mpr c128
                   by_cases c142 : t413 ≥ 0
                   ·rw [if_pos c142] at H
                    have c142b0 : decide (0 ≤ t413) = true:=decide_eq_true c142
                    clear c142
                    by_cases c143 : 0 ≤ t413
                    ·rw [if_pos c143] at H
                     have c143b0 : decide (0 ≤ t413) = true:=decide_eq_true c143
                     clear c143
                     by_cases c144 : t413 < (t405.length : Int)
                     ·rw [if_pos c144] at H
                      have c144b0 : decide (t413 < (t405.length : Int)) = true:=decide_eq_true c144
                      clear c144
                      obtain rfl:=Option.some.inj H
                      as_aux_lemma =>
                       go_wp2_with (first | ((with_reducible refine gate_callee (f:=23) rfl ?_);refine goesL_ (some 178) rfl rfl Try.func23 (by kernel_rfl) rfl #[.slice A0 l0.length c0] rfl (by (try simp only [List.map_toArray,List.map_cons,List.map_nil]);rfl) ?_;(with_reducible refine (spec_DrawRateOn.calls kj69 _ _ l0 t404 t405 t408 t409 _ ?side1 ?side2 A91.out).mono ?_);(case side1 => repeat (exact (Kd.C_below HR0.out HB.out)));(case side2 => exact HC0.out);rintro e w145 ⟨v406,rfl,ho0,hb⟩;refine ⟨_,rfl, ?_⟩;have n0_:=Aside0.mk (Kd.R_elder' (by exact HO_375001.out) (Kd.R_base ho0) hb);have n1_:=Aside0.mk (Kd.R_elder' (by exact HO_396001.out) (Kd.R_base ho0) hb);have n2_:=Aside0.mk (Kd.R_lower (Kd.R_new' (Kd.R_new' ho0 (Kd.R_lt (by exact HO_375001.out))) (Kd.R_lt (by exact HO_396001.out))) (below_size (by exact HB.out)));have n3_:=Aside0.mk (blk_below (g:=gb374) (o := .cells #[.int .i64 t367, .slice Ao11 t368.length co11, .int .i64 t371] 38 (0,0)) (by exact BK374.out) hb);have n4_:=Aside0.mk (blk_below (g:=gb395) (o := .cells #[.int .i64 t388, .slice Ao64 t389.length co64, .int .i64 t392] 38 (0,0)) (by exact BK395.out) hb);have n5_:=Aside0.mk (below_step (by exact HB.out) hb);clear HO_375001;clear HO_396001;clear BK374;clear BK395;clear HB;have HO_375001:=n0_;have HO_396001:=n1_;have HO407:=n2_;have BK374:=n3_;have BK395:=n4_;have HB:=n5_;clear n0_ n1_ n2_ n3_ n4_ n5_;(try clear hb);(try clear ho0)) | ((with_reducible refine gate_dst (N:=25) rfl ?_);(try (refine gate_guard (by rfl) ?_;dsimp only));refine box_event ?hg (N:=25) ?hd (cs:=#[.int .i64 0, .slice none 0 0, .int .i64 0]) (t:=38) ?hr ?_;(case hd => rfl);(case hg => rfl);(case hr => (go_simp;done));intro gb410 hg w146 hbox hb;have n0_:=Aside0.mk (Kd.R_below (by exact HO_375001.out) hb);have n1_:=Aside0.mk (Kd.R_below (by exact HO_396001.out) hb);have n2_:=Aside0.mk (Kd.R_below (by exact HO407.out) hb);have n3_:=Aside0.mk (blk_below (g:=gb374) (o := .cells #[.int .i64 t367, .slice Ao11 t368.length co11, .int .i64 t371] 38 (0,0)) (by exact BK374.out) hb);have n4_:=Aside0.mk (blk_below (g:=gb395) (o := .cells #[.int .i64 t388, .slice Ao64 t389.length co64, .int .i64 t392] 38 (0,0)) (by exact BK395.out) hb);have n5_:=Aside0.mk (below_step (by exact HB.out) hb);have n6_:=Aside0.mk (hbox);have n7_:=Aside0.mk ((by rw [hg];exact (below_size (by exact HB.out)) : w.heap.size ≤ gb410));have n8_:=Aside0.mk ((by rw [hg];exact (below_size (by exact HB.out)) : w.heap.size ≤ gb410));have n9_:=Aside0.mk ((by rw [hg];exact Nat.ne_of_lt (blk_lt (g:=gb374) (o := .cells #[.int .i64 t367, .slice Ao11 t368.length co11, .int .i64 t371] 38 (0,0)) (by exact BK374.out)) : gb374 ≠ gb410));have n10_:=Aside0.mk ((by rw [hg];exact Nat.ne_of_gt (blk_lt (g:=gb374) (o := .cells #[.int .i64 t367, .slice Ao11 t368.length co11, .int .i64 t371] 38 (0,0)) (by exact BK374.out)) : gb410 ≠ gb374));have n11_:=Aside0.mk ((by rw [hg];exact Nat.ne_of_lt (blk_lt (g:=gb395) (o := .cells #[.int .i64 t388, .slice Ao64 t389.length co64, .int .i64 t392] 38 (0,0)) (by exact BK395.out)) : gb395 ≠ gb410));have n12_:=Aside0.mk ((by rw [hg];exact Nat.ne_of_gt (blk_lt (g:=gb395) (o := .cells #[.int .i64 t388, .slice Ao64 t389.length co64, .int .i64 t392] 38 (0,0)) (by exact BK395.out)) : gb410 ≠ gb395));clear HO_375001;clear HO_396001;clear HO407;clear BK374;clear BK395;clear HB;have HO_375001:=n0_;have HO_396001:=n1_;have HO407:=n2_;have BK374:=n3_;have BK395:=n4_;have HB:=n5_;have BK410:=n6_;have GW410:=n7_;have GE410:=n8_;have NB374_410:=n9_;have NB410_374:=n10_;have NB395_410:=n11_;have NB410_395:=n12_;clear n0_ n1_ n2_ n3_ n4_ n5_ n6_ n7_ n8_ n9_ n10_ n11_ n12_;clear hb hbox hg;have hnb147:=NB410_374.out;have hnc147:=NB374_410.out;have hnb148:=NB410_395.out;have hnc148:=NB395_410.out;have hcz149_0 : w146.cell? ⟨gb410,0,none⟩ = some (.int .i64 0):=(blk_cell BK410.out 0).trans rfl;have hcz149_1 : w146.cell? ⟨gb410,1,none⟩ = some (.slice none 0 0):=(blk_cell BK410.out 1).trans rfl;have hcz149_2 : w146.cell? ⟨gb410,2,none⟩ = some (.int .i64 0):=(blk_cell BK410.out 2).trans rfl;have hfz149_0:=blk_frozen BK410.out 0;have hfz149_1:=blk_frozen BK410.out 1;have hfz149_2:=blk_frozen BK410.out 2;obtain ⟨Ao150,co150,eo150⟩ := Kd.R_slice HO407.out;subst eo150) | ((with_reducible refine gate_callee (f:=24) rfl ?_);refine goesL_ (some 184) rfl rfl Try.func24 (by kernel_rfl) rfl #[.agg #[.int .i64 t404, .slice Ao150 t405.length co150, .int .i64 t408], .int .i64 t409] rfl (by (try simp only [List.map_toArray,List.map_cons,List.map_nil]);rfl) ?_;(with_reducible refine (impl_RateOn.calls kj69 t404 _ _ t405 t408 t409 t411 true _ ?side1 ?side2 A92.out).mono ?_);(case side1 => refine (Kd.R_reads' (e:=51) (base:=w.heap.size) (ok:=fun k_ => ((True ∧ some k_ ≠ (.slice Ao11 t368.length co11 : Value).ownBlock) ∧ some k_ ≠ (.slice Ao64 t389.length co64 : Value).ownBlock)) (n:=t405.length) (c:=co150) ?_).2.2;exact (by exact (Kd.R_mono (Kd.R_far (p:=⟨gb410,2,none⟩) (Kd.R_far (p:=⟨gb410,1,none⟩) (Kd.R_far (p:=⟨gb410,0,none⟩) (Kd.R_types HO407.out BK410.out (by decide)) (fun _ hk => hk.2) (.int .i64 t404)) (fun _ hk => hk.2) (.slice Ao150 t405.length co150)) (fun _ hk => hk.2) (.int .i64 t408)) (fun _ h_ => h_.1))));(case side2 => exact (Kd.R_reads' HO407.out).2.1);rintro e w151 ⟨rfl,hb⟩;refine ⟨_,rfl, ?_⟩;have n0_:=Aside0.mk (Kd.R_below (by exact (Kd.R_mono (Kd.R_far (p:=⟨gb410,2,none⟩) (Kd.R_far (p:=⟨gb410,1,none⟩) (Kd.R_far (p:=⟨gb410,0,none⟩) (Kd.R_types HO_375001.out BK410.out (by decide)) (fun _ hk => hk.2) (.int .i64 t404)) (fun _ hk => hk.2) (.slice Ao150 t405.length co150)) (fun _ hk => hk.2) (.int .i64 t408)) (fun _ h_ => h_.1))) hb);have n1_:=Aside0.mk (Kd.R_below (by exact (Kd.R_mono (Kd.R_far (p:=⟨gb410,2,none⟩) (Kd.R_far (p:=⟨gb410,1,none⟩) (Kd.R_far (p:=⟨gb410,0,none⟩) (Kd.R_types HO_396001.out BK410.out (by decide)) (fun _ hk => hk.2) (.int .i64 t404)) (fun _ hk => hk.2) (.slice Ao150 t405.length co150)) (fun _ hk => hk.2) (.int .i64 t408)) (fun _ h_ => h_.1))) hb);have n2_:=Aside0.mk (Kd.R_below (by exact (Kd.R_mono (Kd.R_far (p:=⟨gb410,2,none⟩) (Kd.R_far (p:=⟨gb410,1,none⟩) (Kd.R_far (p:=⟨gb410,0,none⟩) (Kd.R_types HO407.out BK410.out (by decide)) (fun _ hk => hk.2) (.int .i64 t404)) (fun _ hk => hk.2) (.slice Ao150 t405.length co150)) (fun _ hk => hk.2) (.int .i64 t408)) (fun _ h_ => h_.1))) hb);have n3_:=Aside0.mk (blk_below (g:=gb374) (o := .cells #[.int .i64 t367, .slice Ao11 t368.length co11, .int .i64 t371] 38 (0,0)) (by refine blk_far ?_ NB374_410.out _;refine blk_far ?_ NB374_410.out _;refine blk_far ?_ NB374_410.out _;exact BK374.out) hb);have n4_:=Aside0.mk (blk_below (g:=gb395) (o := .cells #[.int .i64 t388, .slice Ao64 t389.length co64, .int .i64 t392] 38 (0,0)) (by refine blk_far ?_ NB395_410.out _;refine blk_far ?_ NB395_410.out _;refine blk_far ?_ NB395_410.out _;exact BK395.out) hb);have n5_:=Aside0.mk (blk_below (g:=gb410) (o := .cells #[.int .i64 t404, .slice Ao150 t405.length co150, .int .i64 t408] 38 (0,0)) (by refine blk_put (cs:=#[.int .i64 t404, .slice Ao150 t405.length co150, .int .i64 0]) ?_ 2 _ rfl;refine blk_put (cs:=#[.int .i64 t404, .slice none 0 0, .int .i64 0]) ?_ 1 _ rfl;refine blk_put (cs:=#[.int .i64 0, .slice none 0 0, .int .i64 0]) ?_ 0 _ rfl;exact BK410.out) hb);have n6_:=Aside0.mk (below_step (by repeat ((with_reducible first | exact HB.out | refine below_set ?_ GE410.out))) hb);clear HO_375001;clear HO_396001;clear HO407;clear BK374;clear BK395;clear BK410;clear HB;have HO_375001:=n0_;have HO_396001:=n1_;have HO407:=n2_;have BK374:=n3_;have BK395:=n4_;have BK410:=n5_;have HB:=n6_;clear n0_ n1_ n2_ n3_ n4_ n5_ n6_;(try clear hb);have hcz152_0 : w151.cell? ⟨gb410,0,none⟩ = some (.int .i64 t404):=(blk_cell BK410.out 0).trans rfl;have hcz152_1 : w151.cell? ⟨gb410,1,none⟩ = some (.slice Ao150 t405.length co150):=(blk_cell BK410.out 1).trans rfl;have hcz152_2 : w151.cell? ⟨gb410,2,none⟩ = some (.int .i64 t408):=(blk_cell BK410.out 2).trans rfl;have hfz152_0:=blk_frozen BK410.out 0;have hfz152_1:=blk_frozen BK410.out 1;have hfz152_2:=blk_frozen BK410.out 2) | ((with_reducible refine gate_callee (f:=25) rfl ?_);refine goesL_ (some 190) rfl rfl Try.func25 (by kernel_rfl) rfl #[.agg #[.int .i64 t404, .slice Ao150 t405.length co150, .int .i64 t408], .int .i64 t409] rfl (by (try simp only [List.map_toArray,List.map_cons,List.map_nil]);rfl) ?_;(with_reducible refine (impl_StepOn.calls kj69 t404 _ _ t405 t408 t409 t413 t414 _ ?side1 ?side2 A93.out).mono ?_);(case side1 => repeat (exact (Kd.R_reads' HO407.out).2.2));(case side2 => exact (Kd.R_reads' HO407.out).2.1);rintro e w153 ⟨rfl,hb⟩;refine ⟨_,rfl, ?_⟩;have n0_:=Aside0.mk (Kd.R_below (by exact HO_375001.out) hb);have n1_:=Aside0.mk (Kd.R_below (by exact HO_396001.out) hb);have n2_:=Aside0.mk (Kd.R_below (by exact HO407.out) hb);have n3_:=Aside0.mk (blk_below (g:=gb374) (o := .cells #[.int .i64 t367, .slice Ao11 t368.length co11, .int .i64 t371] 38 (0,0)) (by exact BK374.out) hb);have n4_:=Aside0.mk (blk_below (g:=gb395) (o := .cells #[.int .i64 t388, .slice Ao64 t389.length co64, .int .i64 t392] 38 (0,0)) (by exact BK395.out) hb);have n5_:=Aside0.mk (blk_below (g:=gb410) (o := .cells #[.int .i64 t404, .slice Ao150 t405.length co150, .int .i64 t408] 38 (0,0)) (by exact BK410.out) hb);have n6_:=Aside0.mk (below_step (by exact HB.out) hb);clear HO_375001;clear HO_396001;clear HO407;clear BK374;clear BK395;clear BK410;clear HB;have HO_375001:=n0_;have HO_396001:=n1_;have HO407:=n2_;have BK374:=n3_;have BK395:=n4_;have BK410:=n5_;have HB:=n6_;clear n0_ n1_ n2_ n3_ n4_ n5_ n6_;(try clear hb);have hcz154_0 : w153.cell? ⟨gb410,0,none⟩ = some (.int .i64 t404):=(blk_cell BK410.out 0).trans rfl;have hcz154_1 : w153.cell? ⟨gb410,1,none⟩ = some (.slice Ao150 t405.length co150):=(blk_cell BK410.out 1).trans rfl;have hcz154_2 : w153.cell? ⟨gb410,2,none⟩ = some (.int .i64 t408):=(blk_cell BK410.out 2).trans rfl;have hfz154_0:=blk_frozen BK410.out 0;have hfz154_1:=blk_frozen BK410.out 1;have hfz154_2:=blk_frozen BK410.out 2) | ((with_reducible refine gate_callee (f:=26) rfl ?_);refine goesL_ (some 196) rfl rfl Try.func26 (by kernel_rfl) rfl #[.agg #[.int .i64 t404, .slice Ao150 t405.length co150, .int .i64 t408], .int .i64 t409] rfl (by (try simp only [List.map_toArray,List.map_cons,List.map_nil]);rfl) ?_;(with_reducible refine (spec_RateOn.calls kj69 t404 _ _ t405 t408 t409 t415 t416 _ ?side1 ?side2 A94.out).mono ?_);(case side1 => repeat (exact (Kd.R_reads' HO407.out).2.2));(case side2 => exact (Kd.R_reads' HO407.out).2.1);rintro e w155 ⟨rfl,hb⟩;refine ⟨_,rfl, ?_⟩;have n0_:=Aside0.mk (Kd.R_below (by exact HO_375001.out) hb);have n1_:=Aside0.mk (Kd.R_below (by exact HO_396001.out) hb);have n2_:=Aside0.mk (Kd.R_below (by exact HO407.out) hb);have n3_:=Aside0.mk (blk_below (g:=gb374) (o := .cells #[.int .i64 t367, .slice Ao11 t368.length co11, .int .i64 t371] 38 (0,0)) (by exact BK374.out) hb);have n4_:=Aside0.mk (blk_below (g:=gb395) (o := .cells #[.int .i64 t388, .slice Ao64 t389.length co64, .int .i64 t392] 38 (0,0)) (by exact BK395.out) hb);have n5_:=Aside0.mk (blk_below (g:=gb410) (o := .cells #[.int .i64 t404, .slice Ao150 t405.length co150, .int .i64 t408] 38 (0,0)) (by exact BK410.out) hb);have n6_:=Aside0.mk (below_step (by exact HB.out) hb);clear HO_375001;clear HO_396001;clear HO407;clear BK374;clear BK395;clear BK410;clear HB;have HO_375001:=n0_;have HO_396001:=n1_;have HO407:=n2_;have BK374:=n3_;have BK395:=n4_;have BK410:=n5_;have HB:=n6_;clear n0_ n1_ n2_ n3_ n4_ n5_ n6_;(try clear hb);have hcz156_0 : w155.cell? ⟨gb410,0,none⟩ = some (.int .i64 t404):=(blk_cell BK410.out 0).trans rfl;have hcz156_1 : w155.cell? ⟨gb410,1,none⟩ = some (.slice Ao150 t405.length co150):=(blk_cell BK410.out 1).trans rfl;have hcz156_2 : w155.cell? ⟨gb410,2,none⟩ = some (.int .i64 t408):=(blk_cell BK410.out 2).trans rfl;have hfz156_0:=blk_frozen BK410.out 0;have hfz156_1:=blk_frozen BK410.out 1;have hfz156_2:=blk_frozen BK410.out 2) | ((with_reducible refine gate_callee (f:=27) rfl ?_);refine goesL_ (some 202) rfl rfl Try.func27 (by kernel_rfl) rfl #[.agg #[.int .i64 t404, .slice Ao150 t405.length co150, .int .i64 t408], .int .i64 t409] rfl (by (try simp only [List.map_toArray,List.map_cons,List.map_nil]);rfl) ?_;(with_reducible refine (spec_StepOn.calls kj69 t404 _ _ t405 t408 t409 t417 t418 _ ?side1 ?side2 A95.out).mono ?_);(case side1 => repeat (exact (Kd.R_reads' HO407.out).2.2));(case side2 => exact (Kd.R_reads' HO407.out).2.1);rintro e w157 ⟨rfl,hb⟩;refine ⟨_,rfl, ?_⟩;have n0_:=Aside0.mk (Kd.R_below (by exact HO_375001.out) hb);have n1_:=Aside0.mk (Kd.R_below (by exact HO_396001.out) hb);have n2_:=Aside0.mk (Kd.R_below (by exact HO407.out) hb);have n3_:=Aside0.mk (blk_below (g:=gb374) (o := .cells #[.int .i64 t367, .slice Ao11 t368.length co11, .int .i64 t371] 38 (0,0)) (by exact BK374.out) hb);have n4_:=Aside0.mk (blk_below (g:=gb395) (o := .cells #[.int .i64 t388, .slice Ao64 t389.length co64, .int .i64 t392] 38 (0,0)) (by exact BK395.out) hb);have n5_:=Aside0.mk (blk_below (g:=gb410) (o := .cells #[.int .i64 t404, .slice Ao150 t405.length co150, .int .i64 t408] 38 (0,0)) (by exact BK410.out) hb);have n6_:=Aside0.mk (below_step (by exact HB.out) hb);clear HO_375001;clear HO_396001;clear HO407;clear BK374;clear BK395;clear BK410;clear HB;have HO_375001:=n0_;have HO_396001:=n1_;have HO407:=n2_;have BK374:=n3_;have BK395:=n4_;have BK410:=n5_;have HB:=n6_;clear n0_ n1_ n2_ n3_ n4_ n5_ n6_;(try clear hb);have hcz158_0 : w157.cell? ⟨gb410,0,none⟩ = some (.int .i64 t404):=(blk_cell BK410.out 0).trans rfl;have hcz158_1 : w157.cell? ⟨gb410,1,none⟩ = some (.slice Ao150 t405.length co150):=(blk_cell BK410.out 1).trans rfl;have hcz158_2 : w157.cell? ⟨gb410,2,none⟩ = some (.int .i64 t408):=(blk_cell BK410.out 2).trans rfl;have hfz158_0:=blk_frozen BK410.out 0;have hfz158_1:=blk_frozen BK410.out 1;have hfz158_2:=blk_frozen BK410.out 2;have p419 : 0 ≤ (t413 : Int):=of_decide_eq_true (by (with_reducible assumption));have q419 : t413 < (t405.length : Int):=of_decide_eq_true (by (with_reducible assumption));obtain ⟨ad419,e419,hx419_0,hx419_1⟩ := at_T51 (Kd.R_reads' HO407.out).2.2 t413 p419 q419;cases e419;replace p419:=eq_true p419;replace q419:=eq_true q419))
                       go_ret
                       exact ⟨by rfl,by exact HB.out⟩
                     ·rw [if_neg c144] at H
                      exact absurd H (by simp)
                    ·rw [if_neg c143] at H
                     exact absurd H (by simp)
                   ·rw [if_neg c142] at H
                    have c142b0 : decide (0 ≤ t413) = false:=decide_eq_false c142
                    clear c142
                    obtain rfl:=Option.some.inj H
                    as_aux_lemma =>
                     go_wp2_with (first | ((with_reducible refine gate_callee (f:=23) rfl ?_);refine goesL_ (some 178) rfl rfl Try.func23 (by kernel_rfl) rfl #[.slice A0 l0.length c0] rfl (by (try simp only [List.map_toArray,List.map_cons,List.map_nil]);rfl) ?_;(with_reducible refine (spec_DrawRateOn.calls kj69 _ _ l0 t404 t405 t408 t409 _ ?side1 ?side2 A91.out).mono ?_);(case side1 => repeat (exact (Kd.C_below HR0.out HB.out)));(case side2 => exact HC0.out);rintro e w159 ⟨v406,rfl,ho0,hb⟩;refine ⟨_,rfl, ?_⟩;have n0_:=Aside0.mk (Kd.R_elder' (by exact HO_375001.out) (Kd.R_base ho0) hb);have n1_:=Aside0.mk (Kd.R_elder' (by exact HO_396001.out) (Kd.R_base ho0) hb);have n2_:=Aside0.mk (Kd.R_lower (Kd.R_new' (Kd.R_new' ho0 (Kd.R_lt (by exact HO_375001.out))) (Kd.R_lt (by exact HO_396001.out))) (below_size (by exact HB.out)));have n3_:=Aside0.mk (blk_below (g:=gb374) (o := .cells #[.int .i64 t367, .slice Ao11 t368.length co11, .int .i64 t371] 38 (0,0)) (by exact BK374.out) hb);have n4_:=Aside0.mk (blk_below (g:=gb395) (o := .cells #[.int .i64 t388, .slice Ao64 t389.length co64, .int .i64 t392] 38 (0,0)) (by exact BK395.out) hb);have n5_:=Aside0.mk (below_step (by exact HB.out) hb);clear HO_375001;clear HO_396001;clear BK374;clear BK395;clear HB;have HO_375001:=n0_;have HO_396001:=n1_;have HO407:=n2_;have BK374:=n3_;have BK395:=n4_;have HB:=n5_;clear n0_ n1_ n2_ n3_ n4_ n5_;(try clear hb);(try clear ho0)) | ((with_reducible refine gate_dst (N:=25) rfl ?_);(try (refine gate_guard (by rfl) ?_;dsimp only));refine box_event ?hg (N:=25) ?hd (cs:=#[.int .i64 0, .slice none 0 0, .int .i64 0]) (t:=38) ?hr ?_;(case hd => rfl);(case hg => rfl);(case hr => (go_simp;done));intro gb410 hg w160 hbox hb;have n0_:=Aside0.mk (Kd.R_below (by exact HO_375001.out) hb);have n1_:=Aside0.mk (Kd.R_below (by exact HO_396001.out) hb);have n2_:=Aside0.mk (Kd.R_below (by exact HO407.out) hb);have n3_:=Aside0.mk (blk_below (g:=gb374) (o := .cells #[.int .i64 t367, .slice Ao11 t368.length co11, .int .i64 t371] 38 (0,0)) (by exact BK374.out) hb);have n4_:=Aside0.mk (blk_below (g:=gb395) (o := .cells #[.int .i64 t388, .slice Ao64 t389.length co64, .int .i64 t392] 38 (0,0)) (by exact BK395.out) hb);have n5_:=Aside0.mk (below_step (by exact HB.out) hb);have n6_:=Aside0.mk (hbox);have n7_:=Aside0.mk ((by rw [hg];exact (below_size (by exact HB.out)) : w.heap.size ≤ gb410));have n8_:=Aside0.mk ((by rw [hg];exact (below_size (by exact HB.out)) : w.heap.size ≤ gb410));have n9_:=Aside0.mk ((by rw [hg];exact Nat.ne_of_lt (blk_lt (g:=gb374) (o := .cells #[.int .i64 t367, .slice Ao11 t368.length co11, .int .i64 t371] 38 (0,0)) (by exact BK374.out)) : gb374 ≠ gb410));have n10_:=Aside0.mk ((by rw [hg];exact Nat.ne_of_gt (blk_lt (g:=gb374) (o := .cells #[.int .i64 t367, .slice Ao11 t368.length co11, .int .i64 t371] 38 (0,0)) (by exact BK374.out)) : gb410 ≠ gb374));have n11_:=Aside0.mk ((by rw [hg];exact Nat.ne_of_lt (blk_lt (g:=gb395) (o := .cells #[.int .i64 t388, .slice Ao64 t389.length co64, .int .i64 t392] 38 (0,0)) (by exact BK395.out)) : gb395 ≠ gb410));have n12_:=Aside0.mk ((by rw [hg];exact Nat.ne_of_gt (blk_lt (g:=gb395) (o := .cells #[.int .i64 t388, .slice Ao64 t389.length co64, .int .i64 t392] 38 (0,0)) (by exact BK395.out)) : gb410 ≠ gb395));clear HO_375001;clear HO_396001;clear HO407;clear BK374;clear BK395;clear HB;have HO_375001:=n0_;have HO_396001:=n1_;have HO407:=n2_;have BK374:=n3_;have BK395:=n4_;have HB:=n5_;have BK410:=n6_;have GW410:=n7_;have GE410:=n8_;have NB374_410:=n9_;have NB410_374:=n10_;have NB395_410:=n11_;have NB410_395:=n12_;clear n0_ n1_ n2_ n3_ n4_ n5_ n6_ n7_ n8_ n9_ n10_ n11_ n12_;clear hb hbox hg;have hnb161:=NB410_374.out;have hnc161:=NB374_410.out;have hnb162:=NB410_395.out;have hnc162:=NB395_410.out;have hcz163_0 : w160.cell? ⟨gb410,0,none⟩ = some (.int .i64 0):=(blk_cell BK410.out 0).trans rfl;have hcz163_1 : w160.cell? ⟨gb410,1,none⟩ = some (.slice none 0 0):=(blk_cell BK410.out 1).trans rfl;have hcz163_2 : w160.cell? ⟨gb410,2,none⟩ = some (.int .i64 0):=(blk_cell BK410.out 2).trans rfl;have hfz163_0:=blk_frozen BK410.out 0;have hfz163_1:=blk_frozen BK410.out 1;have hfz163_2:=blk_frozen BK410.out 2;obtain ⟨Ao164,co164,eo164⟩ := Kd.R_slice HO407.out;subst eo164) | ((with_reducible refine gate_callee (f:=24) rfl ?_);refine goesL_ (some 184) rfl rfl Try.func24 (by kernel_rfl) rfl #[.agg #[.int .i64 t404, .slice Ao164 t405.length co164, .int .i64 t408], .int .i64 t409] rfl (by (try simp only [List.map_toArray,List.map_cons,List.map_nil]);rfl) ?_;(with_reducible refine (impl_RateOn.calls kj69 t404 _ _ t405 t408 t409 t411 true _ ?side1 ?side2 A92.out).mono ?_);(case side1 => refine (Kd.R_reads' (e:=51) (base:=w.heap.size) (ok:=fun k_ => ((True ∧ some k_ ≠ (.slice Ao11 t368.length co11 : Value).ownBlock) ∧ some k_ ≠ (.slice Ao64 t389.length co64 : Value).ownBlock)) (n:=t405.length) (c:=co164) ?_).2.2;exact (by exact (Kd.R_mono (Kd.R_far (p:=⟨gb410,2,none⟩) (Kd.R_far (p:=⟨gb410,1,none⟩) (Kd.R_far (p:=⟨gb410,0,none⟩) (Kd.R_types HO407.out BK410.out (by decide)) (fun _ hk => hk.2) (.int .i64 t404)) (fun _ hk => hk.2) (.slice Ao164 t405.length co164)) (fun _ hk => hk.2) (.int .i64 t408)) (fun _ h_ => h_.1))));(case side2 => exact (Kd.R_reads' HO407.out).2.1);rintro e w165 ⟨rfl,hb⟩;refine ⟨_,rfl, ?_⟩;have n0_:=Aside0.mk (Kd.R_below (by exact (Kd.R_mono (Kd.R_far (p:=⟨gb410,2,none⟩) (Kd.R_far (p:=⟨gb410,1,none⟩) (Kd.R_far (p:=⟨gb410,0,none⟩) (Kd.R_types HO_375001.out BK410.out (by decide)) (fun _ hk => hk.2) (.int .i64 t404)) (fun _ hk => hk.2) (.slice Ao164 t405.length co164)) (fun _ hk => hk.2) (.int .i64 t408)) (fun _ h_ => h_.1))) hb);have n1_:=Aside0.mk (Kd.R_below (by exact (Kd.R_mono (Kd.R_far (p:=⟨gb410,2,none⟩) (Kd.R_far (p:=⟨gb410,1,none⟩) (Kd.R_far (p:=⟨gb410,0,none⟩) (Kd.R_types HO_396001.out BK410.out (by decide)) (fun _ hk => hk.2) (.int .i64 t404)) (fun _ hk => hk.2) (.slice Ao164 t405.length co164)) (fun _ hk => hk.2) (.int .i64 t408)) (fun _ h_ => h_.1))) hb);have n2_:=Aside0.mk (Kd.R_below (by exact (Kd.R_mono (Kd.R_far (p:=⟨gb410,2,none⟩) (Kd.R_far (p:=⟨gb410,1,none⟩) (Kd.R_far (p:=⟨gb410,0,none⟩) (Kd.R_types HO407.out BK410.out (by decide)) (fun _ hk => hk.2) (.int .i64 t404)) (fun _ hk => hk.2) (.slice Ao164 t405.length co164)) (fun _ hk => hk.2) (.int .i64 t408)) (fun _ h_ => h_.1))) hb);have n3_:=Aside0.mk (blk_below (g:=gb374) (o := .cells #[.int .i64 t367, .slice Ao11 t368.length co11, .int .i64 t371] 38 (0,0)) (by refine blk_far ?_ NB374_410.out _;refine blk_far ?_ NB374_410.out _;refine blk_far ?_ NB374_410.out _;exact BK374.out) hb);have n4_:=Aside0.mk (blk_below (g:=gb395) (o := .cells #[.int .i64 t388, .slice Ao64 t389.length co64, .int .i64 t392] 38 (0,0)) (by refine blk_far ?_ NB395_410.out _;refine blk_far ?_ NB395_410.out _;refine blk_far ?_ NB395_410.out _;exact BK395.out) hb);have n5_:=Aside0.mk (blk_below (g:=gb410) (o := .cells #[.int .i64 t404, .slice Ao164 t405.length co164, .int .i64 t408] 38 (0,0)) (by refine blk_put (cs:=#[.int .i64 t404, .slice Ao164 t405.length co164, .int .i64 0]) ?_ 2 _ rfl;refine blk_put (cs:=#[.int .i64 t404, .slice none 0 0, .int .i64 0]) ?_ 1 _ rfl;refine blk_put (cs:=#[.int .i64 0, .slice none 0 0, .int .i64 0]) ?_ 0 _ rfl;exact BK410.out) hb);have n6_:=Aside0.mk (below_step (by repeat ((with_reducible first | exact HB.out | refine below_set ?_ GE410.out))) hb);clear HO_375001;clear HO_396001;clear HO407;clear BK374;clear BK395;clear BK410;clear HB;have HO_375001:=n0_;have HO_396001:=n1_;have HO407:=n2_;have BK374:=n3_;have BK395:=n4_;have BK410:=n5_;have HB:=n6_;clear n0_ n1_ n2_ n3_ n4_ n5_ n6_;(try clear hb);have hcz166_0 : w165.cell? ⟨gb410,0,none⟩ = some (.int .i64 t404):=(blk_cell BK410.out 0).trans rfl;have hcz166_1 : w165.cell? ⟨gb410,1,none⟩ = some (.slice Ao164 t405.length co164):=(blk_cell BK410.out 1).trans rfl;have hcz166_2 : w165.cell? ⟨gb410,2,none⟩ = some (.int .i64 t408):=(blk_cell BK410.out 2).trans rfl;have hfz166_0:=blk_frozen BK410.out 0;have hfz166_1:=blk_frozen BK410.out 1;have hfz166_2:=blk_frozen BK410.out 2) | ((with_reducible refine gate_callee (f:=25) rfl ?_);refine goesL_ (some 190) rfl rfl Try.func25 (by kernel_rfl) rfl #[.agg #[.int .i64 t404, .slice Ao164 t405.length co164, .int .i64 t408], .int .i64 t409] rfl (by (try simp only [List.map_toArray,List.map_cons,List.map_nil]);rfl) ?_;(with_reducible refine (impl_StepOn.calls kj69 t404 _ _ t405 t408 t409 t413 t414 _ ?side1 ?side2 A93.out).mono ?_);(case side1 => repeat (exact (Kd.R_reads' HO407.out).2.2));(case side2 => exact (Kd.R_reads' HO407.out).2.1);rintro e w167 ⟨rfl,hb⟩;refine ⟨_,rfl, ?_⟩;have n0_:=Aside0.mk (Kd.R_below (by exact HO_375001.out) hb);have n1_:=Aside0.mk (Kd.R_below (by exact HO_396001.out) hb);have n2_:=Aside0.mk (Kd.R_below (by exact HO407.out) hb);have n3_:=Aside0.mk (blk_below (g:=gb374) (o := .cells #[.int .i64 t367, .slice Ao11 t368.length co11, .int .i64 t371] 38 (0,0)) (by exact BK374.out) hb);have n4_:=Aside0.mk (blk_below (g:=gb395) (o := .cells #[.int .i64 t388, .slice Ao64 t389.length co64, .int .i64 t392] 38 (0,0)) (by exact BK395.out) hb);have n5_:=Aside0.mk (blk_below (g:=gb410) (o := .cells #[.int .i64 t404, .slice Ao164 t405.length co164, .int .i64 t408] 38 (0,0)) (by exact BK410.out) hb);have n6_:=Aside0.mk (below_step (by exact HB.out) hb);clear HO_375001;clear HO_396001;clear HO407;clear BK374;clear BK395;clear BK410;clear HB;have HO_375001:=n0_;have HO_396001:=n1_;have HO407:=n2_;have BK374:=n3_;have BK395:=n4_;have BK410:=n5_;have HB:=n6_;clear n0_ n1_ n2_ n3_ n4_ n5_ n6_;(try clear hb);have hcz168_0 : w167.cell? ⟨gb410,0,none⟩ = some (.int .i64 t404):=(blk_cell BK410.out 0).trans rfl;have hcz168_1 : w167.cell? ⟨gb410,1,none⟩ = some (.slice Ao164 t405.length co164):=(blk_cell BK410.out 1).trans rfl;have hcz168_2 : w167.cell? ⟨gb410,2,none⟩ = some (.int .i64 t408):=(blk_cell BK410.out 2).trans rfl;have hfz168_0:=blk_frozen BK410.out 0;have hfz168_1:=blk_frozen BK410.out 1;have hfz168_2:=blk_frozen BK410.out 2) | ((with_reducible refine gate_callee (f:=26) rfl ?_);refine goesL_ (some 196) rfl rfl Try.func26 (by kernel_rfl) rfl #[.agg #[.int .i64 t404, .slice Ao164 t405.length co164, .int .i64 t408], .int .i64 t409] rfl (by (try simp only [List.map_toArray,List.map_cons,List.map_nil]);rfl) ?_;(with_reducible refine (spec_RateOn.calls kj69 t404 _ _ t405 t408 t409 t415 t416 _ ?side1 ?side2 A94.out).mono ?_);(case side1 => repeat (exact (Kd.R_reads' HO407.out).2.2));(case side2 => exact (Kd.R_reads' HO407.out).2.1);rintro e w169 ⟨rfl,hb⟩;refine ⟨_,rfl, ?_⟩;have n0_:=Aside0.mk (Kd.R_below (by exact HO_375001.out) hb);have n1_:=Aside0.mk (Kd.R_below (by exact HO_396001.out) hb);have n2_:=Aside0.mk (Kd.R_below (by exact HO407.out) hb);have n3_:=Aside0.mk (blk_below (g:=gb374) (o := .cells #[.int .i64 t367, .slice Ao11 t368.length co11, .int .i64 t371] 38 (0,0)) (by exact BK374.out) hb);have n4_:=Aside0.mk (blk_below (g:=gb395) (o := .cells #[.int .i64 t388, .slice Ao64 t389.length co64, .int .i64 t392] 38 (0,0)) (by exact BK395.out) hb);have n5_:=Aside0.mk (blk_below (g:=gb410) (o := .cells #[.int .i64 t404, .slice Ao164 t405.length co164, .int .i64 t408] 38 (0,0)) (by exact BK410.out) hb);have n6_:=Aside0.mk (below_step (by exact HB.out) hb);clear HO_375001;clear HO_396001;clear HO407;clear BK374;clear BK395;clear BK410;clear HB;have HO_375001:=n0_;have HO_396001:=n1_;have HO407:=n2_;have BK374:=n3_;have BK395:=n4_;have BK410:=n5_;have HB:=n6_;clear n0_ n1_ n2_ n3_ n4_ n5_ n6_;(try clear hb);have hcz170_0 : w169.cell? ⟨gb410,0,none⟩ = some (.int .i64 t404):=(blk_cell BK410.out 0).trans rfl;have hcz170_1 : w169.cell? ⟨gb410,1,none⟩ = some (.slice Ao164 t405.length co164):=(blk_cell BK410.out 1).trans rfl;have hcz170_2 : w169.cell? ⟨gb410,2,none⟩ = some (.int .i64 t408):=(blk_cell BK410.out 2).trans rfl;have hfz170_0:=blk_frozen BK410.out 0;have hfz170_1:=blk_frozen BK410.out 1;have hfz170_2:=blk_frozen BK410.out 2) | ((with_reducible refine gate_callee (f:=27) rfl ?_);refine goesL_ (some 202) rfl rfl Try.func27 (by kernel_rfl) rfl #[.agg #[.int .i64 t404, .slice Ao164 t405.length co164, .int .i64 t408], .int .i64 t409] rfl (by (try simp only [List.map_toArray,List.map_cons,List.map_nil]);rfl) ?_;(with_reducible refine (spec_StepOn.calls kj69 t404 _ _ t405 t408 t409 t417 t418 _ ?side1 ?side2 A95.out).mono ?_);(case side1 => repeat (exact (Kd.R_reads' HO407.out).2.2));(case side2 => exact (Kd.R_reads' HO407.out).2.1);rintro e w171 ⟨rfl,hb⟩;refine ⟨_,rfl, ?_⟩;have n0_:=Aside0.mk (Kd.R_below (by exact HO_375001.out) hb);have n1_:=Aside0.mk (Kd.R_below (by exact HO_396001.out) hb);have n2_:=Aside0.mk (Kd.R_below (by exact HO407.out) hb);have n3_:=Aside0.mk (blk_below (g:=gb374) (o := .cells #[.int .i64 t367, .slice Ao11 t368.length co11, .int .i64 t371] 38 (0,0)) (by exact BK374.out) hb);have n4_:=Aside0.mk (blk_below (g:=gb395) (o := .cells #[.int .i64 t388, .slice Ao64 t389.length co64, .int .i64 t392] 38 (0,0)) (by exact BK395.out) hb);have n5_:=Aside0.mk (blk_below (g:=gb410) (o := .cells #[.int .i64 t404, .slice Ao164 t405.length co164, .int .i64 t408] 38 (0,0)) (by exact BK410.out) hb);have n6_:=Aside0.mk (below_step (by exact HB.out) hb);clear HO_375001;clear HO_396001;clear HO407;clear BK374;clear BK395;clear BK410;clear HB;have HO_375001:=n0_;have HO_396001:=n1_;have HO407:=n2_;have BK374:=n3_;have BK395:=n4_;have BK410:=n5_;have HB:=n6_;clear n0_ n1_ n2_ n3_ n4_ n5_ n6_;(try clear hb)))
                     go_ret
                     exact ⟨by rfl,by exact HB.out⟩
                 ·rw [if_neg c127] at H
                  have c127b0 : decide (t413 < 0) = false:=decide_eq_false c127
                  clear c127
                  by_cases c172 : t413 ≥ 0
                  ·rw [if_pos c172] at H
                   have c172b0 : decide (0 ≤ t413) = true:=decide_eq_true c172
                   clear c172
                   by_cases c173 : 0 ≤ t413
                   ·rw [if_pos c173] at H
                    have c173b0 : decide (0 ≤ t413) = true:=decide_eq_true c173
                    clear c173
                    by_cases c174 : t413 < (t405.length : Int)
                    ·rw [if_pos c174] at H
                     have c174b0 : decide (t413 < (t405.length : Int)) = true:=decide_eq_true c174
                     clear c174
                     obtain rfl:=Option.some.inj H
                     as_aux_lemma =>
                      go_wp2_with (first | ((with_reducible refine gate_callee (f:=23) rfl ?_);refine goesL_ (some 178) rfl rfl Try.func23 (by kernel_rfl) rfl #[.slice A0 l0.length c0] rfl (by (try simp only [List.map_toArray,List.map_cons,List.map_nil]);rfl) ?_;(with_reducible refine (spec_DrawRateOn.calls kj69 _ _ l0 t404 t405 t408 t409 _ ?side1 ?side2 A91.out).mono ?_);(case side1 => repeat (exact (Kd.C_below HR0.out HB.out)));(case side2 => exact HC0.out);rintro e w175 ⟨v406,rfl,ho0,hb⟩;refine ⟨_,rfl, ?_⟩;have n0_:=Aside0.mk (Kd.R_elder' (by exact HO_375001.out) (Kd.R_base ho0) hb);have n1_:=Aside0.mk (Kd.R_elder' (by exact HO_396001.out) (Kd.R_base ho0) hb);have n2_:=Aside0.mk (Kd.R_lower (Kd.R_new' (Kd.R_new' ho0 (Kd.R_lt (by exact HO_375001.out))) (Kd.R_lt (by exact HO_396001.out))) (below_size (by exact HB.out)));have n3_:=Aside0.mk (blk_below (g:=gb374) (o := .cells #[.int .i64 t367, .slice Ao11 t368.length co11, .int .i64 t371] 38 (0,0)) (by exact BK374.out) hb);have n4_:=Aside0.mk (blk_below (g:=gb395) (o := .cells #[.int .i64 t388, .slice Ao64 t389.length co64, .int .i64 t392] 38 (0,0)) (by exact BK395.out) hb);have n5_:=Aside0.mk (below_step (by exact HB.out) hb);clear HO_375001;clear HO_396001;clear BK374;clear BK395;clear HB;have HO_375001:=n0_;have HO_396001:=n1_;have HO407:=n2_;have BK374:=n3_;have BK395:=n4_;have HB:=n5_;clear n0_ n1_ n2_ n3_ n4_ n5_;(try clear hb);(try clear ho0)) | ((with_reducible refine gate_dst (N:=25) rfl ?_);(try (refine gate_guard (by rfl) ?_;dsimp only));refine box_event ?hg (N:=25) ?hd (cs:=#[.int .i64 0, .slice none 0 0, .int .i64 0]) (t:=38) ?hr ?_;(case hd => rfl);(case hg => rfl);(case hr => (go_simp;done));intro gb410 hg w176 hbox hb;have n0_:=Aside0.mk (Kd.R_below (by exact HO_375001.out) hb);have n1_:=Aside0.mk (Kd.R_below (by exact HO_396001.out) hb);have n2_:=Aside0.mk (Kd.R_below (by exact HO407.out) hb);have n3_:=Aside0.mk (blk_below (g:=gb374) (o := .cells #[.int .i64 t367, .slice Ao11 t368.length co11, .int .i64 t371] 38 (0,0)) (by exact BK374.out) hb);have n4_:=Aside0.mk (blk_below (g:=gb395) (o := .cells #[.int .i64 t388, .slice Ao64 t389.length co64, .int .i64 t392] 38 (0,0)) (by exact BK395.out) hb);have n5_:=Aside0.mk (below_step (by exact HB.out) hb);have n6_:=Aside0.mk (hbox);have n7_:=Aside0.mk ((by rw [hg];exact (below_size (by exact HB.out)) : w.heap.size ≤ gb410));have n8_:=Aside0.mk ((by rw [hg];exact (below_size (by exact HB.out)) : w.heap.size ≤ gb410));have n9_:=Aside0.mk ((by rw [hg];exact Nat.ne_of_lt (blk_lt (g:=gb374) (o := .cells #[.int .i64 t367, .slice Ao11 t368.length co11, .int .i64 t371] 38 (0,0)) (by exact BK374.out)) : gb374 ≠ gb410));have n10_:=Aside0.mk ((by rw [hg];exact Nat.ne_of_gt (blk_lt (g:=gb374) (o := .cells #[.int .i64 t367, .slice Ao11 t368.length co11, .int .i64 t371] 38 (0,0)) (by exact BK374.out)) : gb410 ≠ gb374));have n11_:=Aside0.mk ((by rw [hg];exact Nat.ne_of_lt (blk_lt (g:=gb395) (o := .cells #[.int .i64 t388, .slice Ao64 t389.length co64, .int .i64 t392] 38 (0,0)) (by exact BK395.out)) : gb395 ≠ gb410));have n12_:=Aside0.mk ((by rw [hg];exact Nat.ne_of_gt (blk_lt (g:=gb395) (o := .cells #[.int .i64 t388, .slice Ao64 t389.length co64, .int .i64 t392] 38 (0,0)) (by exact BK395.out)) : gb410 ≠ gb395));clear HO_375001;clear HO_396001;clear HO407;clear BK374;clear BK395;clear HB;have HO_375001:=n0_;have HO_396001:=n1_;have HO407:=n2_;have BK374:=n3_;have BK395:=n4_;have HB:=n5_;have BK410:=n6_;have GW410:=n7_;have GE410:=n8_;have NB374_410:=n9_;have NB410_374:=n10_;have NB395_410:=n11_;have NB410_395:=n12_;clear n0_ n1_ n2_ n3_ n4_ n5_ n6_ n7_ n8_ n9_ n10_ n11_ n12_;clear hb hbox hg;have hnb177:=NB410_374.out;have hnc177:=NB374_410.out;have hnb178:=NB410_395.out;have hnc178:=NB395_410.out;have hcz179_0 : w176.cell? ⟨gb410,0,none⟩ = some (.int .i64 0):=(blk_cell BK410.out 0).trans rfl;have hcz179_1 : w176.cell? ⟨gb410,1,none⟩ = some (.slice none 0 0):=(blk_cell BK410.out 1).trans rfl;have hcz179_2 : w176.cell? ⟨gb410,2,none⟩ = some (.int .i64 0):=(blk_cell BK410.out 2).trans rfl;have hfz179_0:=blk_frozen BK410.out 0;have hfz179_1:=blk_frozen BK410.out 1;have hfz179_2:=blk_frozen BK410.out 2;obtain ⟨Ao180,co180,eo180⟩ := Kd.R_slice HO407.out;subst eo180) | ((with_reducible refine gate_callee (f:=24) rfl ?_);refine goesL_ (some 184) rfl rfl Try.func24 (by kernel_rfl) rfl #[.agg #[.int .i64 t404, .slice Ao180 t405.length co180, .int .i64 t408], .int .i64 t409] rfl (by (try simp only [List.map_toArray,List.map_cons,List.map_nil]);rfl) ?_;(with_reducible refine (impl_RateOn.calls kj69 t404 _ _ t405 t408 t409 t411 true _ ?side1 ?side2 A92.out).mono ?_);(case side1 => refine (Kd.R_reads' (e:=51) (base:=w.heap.size) (ok:=fun k_ => ((True ∧ some k_ ≠ (.slice Ao11 t368.length co11 : Value).ownBlock) ∧ some k_ ≠ (.slice Ao64 t389.length co64 : Value).ownBlock)) (n:=t405.length) (c:=co180) ?_).2.2;exact (by exact (Kd.R_mono (Kd.R_far (p:=⟨gb410,2,none⟩) (Kd.R_far (p:=⟨gb410,1,none⟩) (Kd.R_far (p:=⟨gb410,0,none⟩) (Kd.R_types HO407.out BK410.out (by decide)) (fun _ hk => hk.2) (.int .i64 t404)) (fun _ hk => hk.2) (.slice Ao180 t405.length co180)) (fun _ hk => hk.2) (.int .i64 t408)) (fun _ h_ => h_.1))));(case side2 => exact (Kd.R_reads' HO407.out).2.1);rintro e w181 ⟨rfl,hb⟩;refine ⟨_,rfl, ?_⟩;have n0_:=Aside0.mk (Kd.R_below (by exact (Kd.R_mono (Kd.R_far (p:=⟨gb410,2,none⟩) (Kd.R_far (p:=⟨gb410,1,none⟩) (Kd.R_far (p:=⟨gb410,0,none⟩) (Kd.R_types HO_375001.out BK410.out (by decide)) (fun _ hk => hk.2) (.int .i64 t404)) (fun _ hk => hk.2) (.slice Ao180 t405.length co180)) (fun _ hk => hk.2) (.int .i64 t408)) (fun _ h_ => h_.1))) hb);have n1_:=Aside0.mk (Kd.R_below (by exact (Kd.R_mono (Kd.R_far (p:=⟨gb410,2,none⟩) (Kd.R_far (p:=⟨gb410,1,none⟩) (Kd.R_far (p:=⟨gb410,0,none⟩) (Kd.R_types HO_396001.out BK410.out (by decide)) (fun _ hk => hk.2) (.int .i64 t404)) (fun _ hk => hk.2) (.slice Ao180 t405.length co180)) (fun _ hk => hk.2) (.int .i64 t408)) (fun _ h_ => h_.1))) hb);have n2_:=Aside0.mk (Kd.R_below (by exact (Kd.R_mono (Kd.R_far (p:=⟨gb410,2,none⟩) (Kd.R_far (p:=⟨gb410,1,none⟩) (Kd.R_far (p:=⟨gb410,0,none⟩) (Kd.R_types HO407.out BK410.out (by decide)) (fun _ hk => hk.2) (.int .i64 t404)) (fun _ hk => hk.2) (.slice Ao180 t405.length co180)) (fun _ hk => hk.2) (.int .i64 t408)) (fun _ h_ => h_.1))) hb);have n3_:=Aside0.mk (blk_below (g:=gb374) (o := .cells #[.int .i64 t367, .slice Ao11 t368.length co11, .int .i64 t371] 38 (0,0)) (by refine blk_far ?_ NB374_410.out _;refine blk_far ?_ NB374_410.out _;refine blk_far ?_ NB374_410.out _;exact BK374.out) hb);have n4_:=Aside0.mk (blk_below (g:=gb395) (o := .cells #[.int .i64 t388, .slice Ao64 t389.length co64, .int .i64 t392] 38 (0,0)) (by refine blk_far ?_ NB395_410.out _;refine blk_far ?_ NB395_410.out _;refine blk_far ?_ NB395_410.out _;exact BK395.out) hb);have n5_:=Aside0.mk (blk_below (g:=gb410) (o := .cells #[.int .i64 t404, .slice Ao180 t405.length co180, .int .i64 t408] 38 (0,0)) (by refine blk_put (cs:=#[.int .i64 t404, .slice Ao180 t405.length co180, .int .i64 0]) ?_ 2 _ rfl;refine blk_put (cs:=#[.int .i64 t404, .slice none 0 0, .int .i64 0]) ?_ 1 _ rfl;refine blk_put (cs:=#[.int .i64 0, .slice none 0 0, .int .i64 0]) ?_ 0 _ rfl;exact BK410.out) hb);have n6_:=Aside0.mk (below_step (by repeat ((with_reducible first | exact HB.out | refine below_set ?_ GE410.out))) hb);clear HO_375001;clear HO_396001;clear HO407;clear BK374;clear BK395;clear BK410;clear HB;have HO_375001:=n0_;have HO_396001:=n1_;have HO407:=n2_;have BK374:=n3_;have BK395:=n4_;have BK410:=n5_;have HB:=n6_;clear n0_ n1_ n2_ n3_ n4_ n5_ n6_;(try clear hb);have hcz182_0 : w181.cell? ⟨gb410,0,none⟩ = some (.int .i64 t404):=(blk_cell BK410.out 0).trans rfl;have hcz182_1 : w181.cell? ⟨gb410,1,none⟩ = some (.slice Ao180 t405.length co180):=(blk_cell BK410.out 1).trans rfl;have hcz182_2 : w181.cell? ⟨gb410,2,none⟩ = some (.int .i64 t408):=(blk_cell BK410.out 2).trans rfl;have hfz182_0:=blk_frozen BK410.out 0;have hfz182_1:=blk_frozen BK410.out 1;have hfz182_2:=blk_frozen BK410.out 2) | ((with_reducible refine gate_callee (f:=25) rfl ?_);refine goesL_ (some 190) rfl rfl Try.func25 (by kernel_rfl) rfl #[.agg #[.int .i64 t404, .slice Ao180 t405.length co180, .int .i64 t408], .int .i64 t409] rfl (by (try simp only [List.map_toArray,List.map_cons,List.map_nil]);rfl) ?_;(with_reducible refine (impl_StepOn.calls kj69 t404 _ _ t405 t408 t409 t413 t414 _ ?side1 ?side2 A93.out).mono ?_);(case side1 => repeat (exact (Kd.R_reads' HO407.out).2.2));(case side2 => exact (Kd.R_reads' HO407.out).2.1);rintro e w183 ⟨rfl,hb⟩;refine ⟨_,rfl, ?_⟩;have n0_:=Aside0.mk (Kd.R_below (by exact HO_375001.out) hb);have n1_:=Aside0.mk (Kd.R_below (by exact HO_396001.out) hb);have n2_:=Aside0.mk (Kd.R_below (by exact HO407.out) hb);have n3_:=Aside0.mk (blk_below (g:=gb374) (o := .cells #[.int .i64 t367, .slice Ao11 t368.length co11, .int .i64 t371] 38 (0,0)) (by exact BK374.out) hb);have n4_:=Aside0.mk (blk_below (g:=gb395) (o := .cells #[.int .i64 t388, .slice Ao64 t389.length co64, .int .i64 t392] 38 (0,0)) (by exact BK395.out) hb);have n5_:=Aside0.mk (blk_below (g:=gb410) (o := .cells #[.int .i64 t404, .slice Ao180 t405.length co180, .int .i64 t408] 38 (0,0)) (by exact BK410.out) hb);have n6_:=Aside0.mk (below_step (by exact HB.out) hb);clear HO_375001;clear HO_396001;clear HO407;clear BK374;clear BK395;clear BK410;clear HB;have HO_375001:=n0_;have HO_396001:=n1_;have HO407:=n2_;have BK374:=n3_;have BK395:=n4_;have BK410:=n5_;have HB:=n6_;clear n0_ n1_ n2_ n3_ n4_ n5_ n6_;(try clear hb);have hcz184_0 : w183.cell? ⟨gb410,0,none⟩ = some (.int .i64 t404):=(blk_cell BK410.out 0).trans rfl;have hcz184_1 : w183.cell? ⟨gb410,1,none⟩ = some (.slice Ao180 t405.length co180):=(blk_cell BK410.out 1).trans rfl;have hcz184_2 : w183.cell? ⟨gb410,2,none⟩ = some (.int .i64 t408):=(blk_cell BK410.out 2).trans rfl;have hfz184_0:=blk_frozen BK410.out 0;have hfz184_1:=blk_frozen BK410.out 1;have hfz184_2:=blk_frozen BK410.out 2) | ((with_reducible refine gate_callee (f:=26) rfl ?_);refine goesL_ (some 196) rfl rfl Try.func26 (by kernel_rfl) rfl #[.agg #[.int .i64 t404, .slice Ao180 t405.length co180, .int .i64 t408], .int .i64 t409] rfl (by (try simp only [List.map_toArray,List.map_cons,List.map_nil]);rfl) ?_;(with_reducible refine (spec_RateOn.calls kj69 t404 _ _ t405 t408 t409 t415 t416 _ ?side1 ?side2 A94.out).mono ?_);(case side1 => repeat (exact (Kd.R_reads' HO407.out).2.2));(case side2 => exact (Kd.R_reads' HO407.out).2.1);rintro e w185 ⟨rfl,hb⟩;refine ⟨_,rfl, ?_⟩;have n0_:=Aside0.mk (Kd.R_below (by exact HO_375001.out) hb);have n1_:=Aside0.mk (Kd.R_below (by exact HO_396001.out) hb);have n2_:=Aside0.mk (Kd.R_below (by exact HO407.out) hb);have n3_:=Aside0.mk (blk_below (g:=gb374) (o := .cells #[.int .i64 t367, .slice Ao11 t368.length co11, .int .i64 t371] 38 (0,0)) (by exact BK374.out) hb);have n4_:=Aside0.mk (blk_below (g:=gb395) (o := .cells #[.int .i64 t388, .slice Ao64 t389.length co64, .int .i64 t392] 38 (0,0)) (by exact BK395.out) hb);have n5_:=Aside0.mk (blk_below (g:=gb410) (o := .cells #[.int .i64 t404, .slice Ao180 t405.length co180, .int .i64 t408] 38 (0,0)) (by exact BK410.out) hb);have n6_:=Aside0.mk (below_step (by exact HB.out) hb);clear HO_375001;clear HO_396001;clear HO407;clear BK374;clear BK395;clear BK410;clear HB;have HO_375001:=n0_;have HO_396001:=n1_;have HO407:=n2_;have BK374:=n3_;have BK395:=n4_;have BK410:=n5_;have HB:=n6_;clear n0_ n1_ n2_ n3_ n4_ n5_ n6_;(try clear hb);have hcz186_0 : w185.cell? ⟨gb410,0,none⟩ = some (.int .i64 t404):=(blk_cell BK410.out 0).trans rfl;have hcz186_1 : w185.cell? ⟨gb410,1,none⟩ = some (.slice Ao180 t405.length co180):=(blk_cell BK410.out 1).trans rfl;have hcz186_2 : w185.cell? ⟨gb410,2,none⟩ = some (.int .i64 t408):=(blk_cell BK410.out 2).trans rfl;have hfz186_0:=blk_frozen BK410.out 0;have hfz186_1:=blk_frozen BK410.out 1;have hfz186_2:=blk_frozen BK410.out 2) | ((with_reducible refine gate_callee (f:=27) rfl ?_);refine goesL_ (some 202) rfl rfl Try.func27 (by kernel_rfl) rfl #[.agg #[.int .i64 t404, .slice Ao180 t405.length co180, .int .i64 t408], .int .i64 t409] rfl (by (try simp only [List.map_toArray,List.map_cons,List.map_nil]);rfl) ?_;(with_reducible refine (spec_StepOn.calls kj69 t404 _ _ t405 t408 t409 t417 t418 _ ?side1 ?side2 A95.out).mono ?_);(case side1 => repeat (exact (Kd.R_reads' HO407.out).2.2));(case side2 => exact (Kd.R_reads' HO407.out).2.1);rintro e w187 ⟨rfl,hb⟩;refine ⟨_,rfl, ?_⟩;have n0_:=Aside0.mk (Kd.R_below (by exact HO_375001.out) hb);have n1_:=Aside0.mk (Kd.R_below (by exact HO_396001.out) hb);have n2_:=Aside0.mk (Kd.R_below (by exact HO407.out) hb);have n3_:=Aside0.mk (blk_below (g:=gb374) (o := .cells #[.int .i64 t367, .slice Ao11 t368.length co11, .int .i64 t371] 38 (0,0)) (by exact BK374.out) hb);have n4_:=Aside0.mk (blk_below (g:=gb395) (o := .cells #[.int .i64 t388, .slice Ao64 t389.length co64, .int .i64 t392] 38 (0,0)) (by exact BK395.out) hb);have n5_:=Aside0.mk (blk_below (g:=gb410) (o := .cells #[.int .i64 t404, .slice Ao180 t405.length co180, .int .i64 t408] 38 (0,0)) (by exact BK410.out) hb);have n6_:=Aside0.mk (below_step (by exact HB.out) hb);clear HO_375001;clear HO_396001;clear HO407;clear BK374;clear BK395;clear BK410;clear HB;have HO_375001:=n0_;have HO_396001:=n1_;have HO407:=n2_;have BK374:=n3_;have BK395:=n4_;have BK410:=n5_;have HB:=n6_;clear n0_ n1_ n2_ n3_ n4_ n5_ n6_;(try clear hb);have hcz188_0 : w187.cell? ⟨gb410,0,none⟩ = some (.int .i64 t404):=(blk_cell BK410.out 0).trans rfl;have hcz188_1 : w187.cell? ⟨gb410,1,none⟩ = some (.slice Ao180 t405.length co180):=(blk_cell BK410.out 1).trans rfl;have hcz188_2 : w187.cell? ⟨gb410,2,none⟩ = some (.int .i64 t408):=(blk_cell BK410.out 2).trans rfl;have hfz188_0:=blk_frozen BK410.out 0;have hfz188_1:=blk_frozen BK410.out 1;have hfz188_2:=blk_frozen BK410.out 2;have p420 : 0 ≤ (t413 : Int):=of_decide_eq_true (by (with_reducible assumption));have q420 : t413 < (t405.length : Int):=of_decide_eq_true (by (with_reducible assumption));obtain ⟨ad420,e420,hx420_0,hx420_1⟩ := at_T51 (Kd.R_reads' HO407.out).2.2 t413 p420 q420;cases e420;replace p420:=eq_true p420;replace q420:=eq_true q420))
                      go_ret
                      exact ⟨by rfl,by exact HB.out⟩
                    ·rw [if_neg c174] at H
                     exact absurd H (by simp)
                   ·rw [if_neg c173] at H
                    exact absurd H (by simp)
                  ·rw [if_neg c172] at H
                   have c172b0 : decide (0 ≤ t413) = false:=decide_eq_false c172
                   clear c172
                   obtain rfl:=Option.some.inj H
                   as_aux_lemma =>
                    go_wp2_with (first | ((with_reducible refine gate_callee (f:=23) rfl ?_);refine goesL_ (some 178) rfl rfl Try.func23 (by kernel_rfl) rfl #[.slice A0 l0.length c0] rfl (by (try simp only [List.map_toArray,List.map_cons,List.map_nil]);rfl) ?_;(with_reducible refine (spec_DrawRateOn.calls kj69 _ _ l0 t404 t405 t408 t409 _ ?side1 ?side2 A91.out).mono ?_);(case side1 => repeat (exact (Kd.C_below HR0.out HB.out)));(case side2 => exact HC0.out);rintro e w189 ⟨v406,rfl,ho0,hb⟩;refine ⟨_,rfl, ?_⟩;have n0_:=Aside0.mk (Kd.R_elder' (by exact HO_375001.out) (Kd.R_base ho0) hb);have n1_:=Aside0.mk (Kd.R_elder' (by exact HO_396001.out) (Kd.R_base ho0) hb);have n2_:=Aside0.mk (Kd.R_lower (Kd.R_new' (Kd.R_new' ho0 (Kd.R_lt (by exact HO_375001.out))) (Kd.R_lt (by exact HO_396001.out))) (below_size (by exact HB.out)));have n3_:=Aside0.mk (blk_below (g:=gb374) (o := .cells #[.int .i64 t367, .slice Ao11 t368.length co11, .int .i64 t371] 38 (0,0)) (by exact BK374.out) hb);have n4_:=Aside0.mk (blk_below (g:=gb395) (o := .cells #[.int .i64 t388, .slice Ao64 t389.length co64, .int .i64 t392] 38 (0,0)) (by exact BK395.out) hb);have n5_:=Aside0.mk (below_step (by exact HB.out) hb);clear HO_375001;clear HO_396001;clear BK374;clear BK395;clear HB;have HO_375001:=n0_;have HO_396001:=n1_;have HO407:=n2_;have BK374:=n3_;have BK395:=n4_;have HB:=n5_;clear n0_ n1_ n2_ n3_ n4_ n5_;(try clear hb);(try clear ho0)) | ((with_reducible refine gate_dst (N:=25) rfl ?_);(try (refine gate_guard (by rfl) ?_;dsimp only));refine box_event ?hg (N:=25) ?hd (cs:=#[.int .i64 0, .slice none 0 0, .int .i64 0]) (t:=38) ?hr ?_;(case hd => rfl);(case hg => rfl);(case hr => (go_simp;done));intro gb410 hg w190 hbox hb;have n0_:=Aside0.mk (Kd.R_below (by exact HO_375001.out) hb);have n1_:=Aside0.mk (Kd.R_below (by exact HO_396001.out) hb);have n2_:=Aside0.mk (Kd.R_below (by exact HO407.out) hb);have n3_:=Aside0.mk (blk_below (g:=gb374) (o := .cells #[.int .i64 t367, .slice Ao11 t368.length co11, .int .i64 t371] 38 (0,0)) (by exact BK374.out) hb);have n4_:=Aside0.mk (blk_below (g:=gb395) (o := .cells #[.int .i64 t388, .slice Ao64 t389.length co64, .int .i64 t392] 38 (0,0)) (by exact BK395.out) hb);have n5_:=Aside0.mk (below_step (by exact HB.out) hb);have n6_:=Aside0.mk (hbox);have n7_:=Aside0.mk ((by rw [hg];exact (below_size (by exact HB.out)) : w.heap.size ≤ gb410));have n8_:=Aside0.mk ((by rw [hg];exact (below_size (by exact HB.out)) : w.heap.size ≤ gb410));have n9_:=Aside0.mk ((by rw [hg];exact Nat.ne_of_lt (blk_lt (g:=gb374) (o := .cells #[.int .i64 t367, .slice Ao11 t368.length co11, .int .i64 t371] 38 (0,0)) (by exact BK374.out)) : gb374 ≠ gb410));have n10_:=Aside0.mk ((by rw [hg];exact Nat.ne_of_gt (blk_lt (g:=gb374) (o := .cells #[.int .i64 t367, .slice Ao11 t368.length co11, .int .i64 t371] 38 (0,0)) (by exact BK374.out)) : gb410 ≠ gb374));have n11_:=Aside0.mk ((by rw [hg];exact Nat.ne_of_lt (blk_lt (g:=gb395) (o := .cells #[.int .i64 t388, .slice Ao64 t389.length co64, .int .i64 t392] 38 (0,0)) (by exact BK395.out)) : gb395 ≠ gb410));have n12_:=Aside0.mk ((by rw [hg];exact Nat.ne_of_gt (blk_lt (g:=gb395) (o := .cells #[.int .i64 t388, .slice Ao64 t389.length co64, .int .i64 t392] 38 (0,0)) (by exact BK395.out)) : gb410 ≠ gb395));clear HO_375001;clear HO_396001;clear HO407;clear BK374;clear BK395;clear HB;have HO_375001:=n0_;have HO_396001:=n1_;have HO407:=n2_;have BK374:=n3_;have BK395:=n4_;have HB:=n5_;have BK410:=n6_;have GW410:=n7_;have GE410:=n8_;have NB374_410:=n9_;have NB410_374:=n10_;have NB395_410:=n11_;have NB410_395:=n12_;clear n0_ n1_ n2_ n3_ n4_ n5_ n6_ n7_ n8_ n9_ n10_ n11_ n12_;clear hb hbox hg;have hnb191:=NB410_374.out;have hnc191:=NB374_410.out;have hnb192:=NB410_395.out;have hnc192:=NB395_410.out;have hcz193_0 : w190.cell? ⟨gb410,0,none⟩ = some (.int .i64 0):=(blk_cell BK410.out 0).trans rfl;have hcz193_1 : w190.cell? ⟨gb410,1,none⟩ = some (.slice none 0 0):=(blk_cell BK410.out 1).trans rfl;have hcz193_2 : w190.cell? ⟨gb410,2,none⟩ = some (.int .i64 0):=(blk_cell BK410.out 2).trans rfl;have hfz193_0:=blk_frozen BK410.out 0;have hfz193_1:=blk_frozen BK410.out 1;have hfz193_2:=blk_frozen BK410.out 2;obtain ⟨Ao194,co194,eo194⟩ := Kd.R_slice HO407.out;subst eo194) | ((with_reducible refine gate_callee (f:=24) rfl ?_);refine goesL_ (some 184) rfl rfl Try.func24 (by kernel_rfl) rfl #[.agg #[.int .i64 t404, .slice Ao194 t405.length co194, .int .i64 t408], .int .i64 t409] rfl (by (try simp only [List.map_toArray,List.map_cons,List.map_nil]);rfl) ?_;(with_reducible refine (impl_RateOn.calls kj69 t404 _ _ t405 t408 t409 t411 true _ ?side1 ?side2 A92.out).mono ?_);(case side1 => refine (Kd.R_reads' (e:=51) (base:=w.heap.size) (ok:=fun k_ => ((True ∧ some k_ ≠ (.slice Ao11 t368.length co11 : Value).ownBlock) ∧ some k_ ≠ (.slice Ao64 t389.length co64 : Value).ownBlock)) (n:=t405.length) (c:=co194) ?_).2.2;exact (by exact (Kd.R_mono (Kd.R_far (p:=⟨gb410,2,none⟩) (Kd.R_far (p:=⟨gb410,1,none⟩) (Kd.R_far (p:=⟨gb410,0,none⟩) (Kd.R_types HO407.out BK410.out (by decide)) (fun _ hk => hk.2) (.int .i64 t404)) (fun _ hk => hk.2) (.slice Ao194 t405.length co194)) (fun _ hk => hk.2) (.int .i64 t408)) (fun _ h_ => h_.1))));(case side2 => exact (Kd.R_reads' HO407.out).2.1);rintro e w195 ⟨rfl,hb⟩;refine ⟨_,rfl, ?_⟩;have n0_:=Aside0.mk (Kd.R_below (by exact (Kd.R_mono (Kd.R_far (p:=⟨gb410,2,none⟩) (Kd.R_far (p:=⟨gb410,1,none⟩) (Kd.R_far (p:=⟨gb410,0,none⟩) (Kd.R_types HO_375001.out BK410.out (by decide)) (fun _ hk => hk.2) (.int .i64 t404)) (fun _ hk => hk.2) (.slice Ao194 t405.length co194)) (fun _ hk => hk.2) (.int .i64 t408)) (fun _ h_ => h_.1))) hb);have n1_:=Aside0.mk (Kd.R_below (by exact (Kd.R_mono (Kd.R_far (p:=⟨gb410,2,none⟩) (Kd.R_far (p:=⟨gb410,1,none⟩) (Kd.R_far (p:=⟨gb410,0,none⟩) (Kd.R_types HO_396001.out BK410.out (by decide)) (fun _ hk => hk.2) (.int .i64 t404)) (fun _ hk => hk.2) (.slice Ao194 t405.length co194)) (fun _ hk => hk.2) (.int .i64 t408)) (fun _ h_ => h_.1))) hb);have n2_:=Aside0.mk (Kd.R_below (by exact (Kd.R_mono (Kd.R_far (p:=⟨gb410,2,none⟩) (Kd.R_far (p:=⟨gb410,1,none⟩) (Kd.R_far (p:=⟨gb410,0,none⟩) (Kd.R_types HO407.out BK410.out (by decide)) (fun _ hk => hk.2) (.int .i64 t404)) (fun _ hk => hk.2) (.slice Ao194 t405.length co194)) (fun _ hk => hk.2) (.int .i64 t408)) (fun _ h_ => h_.1))) hb);have n3_:=Aside0.mk (blk_below (g:=gb374) (o := .cells #[.int .i64 t367, .slice Ao11 t368.length co11, .int .i64 t371] 38 (0,0)) (by refine blk_far ?_ NB374_410.out _;refine blk_far ?_ NB374_410.out _;refine blk_far ?_ NB374_410.out _;exact BK374.out) hb);have n4_:=Aside0.mk (blk_below (g:=gb395) (o := .cells #[.int .i64 t388, .slice Ao64 t389.length co64, .int .i64 t392] 38 (0,0)) (by refine blk_far ?_ NB395_410.out _;refine blk_far ?_ NB395_410.out _;refine blk_far ?_ NB395_410.out _;exact BK395.out) hb);have n5_:=Aside0.mk (blk_below (g:=gb410) (o := .cells #[.int .i64 t404, .slice Ao194 t405.length co194, .int .i64 t408] 38 (0,0)) (by refine blk_put (cs:=#[.int .i64 t404, .slice Ao194 t405.length co194, .int .i64 0]) ?_ 2 _ rfl;refine blk_put (cs:=#[.int .i64 t404, .slice none 0 0, .int .i64 0]) ?_ 1 _ rfl;refine blk_put (cs:=#[.int .i64 0, .slice none 0 0, .int .i64 0]) ?_ 0 _ rfl;exact BK410.out) hb);have n6_:=Aside0.mk (below_step (by repeat ((with_reducible first | exact HB.out | refine below_set ?_ GE410.out))) hb);clear HO_375001;clear HO_396001;clear HO407;clear BK374;clear BK395;clear BK410;clear HB;have HO_375001:=n0_;have HO_396001:=n1_;have HO407:=n2_;have BK374:=n3_;have BK395:=n4_;have BK410:=n5_;have HB:=n6_;clear n0_ n1_ n2_ n3_ n4_ n5_ n6_;(try clear hb);have hcz196_0 : w195.cell? ⟨gb410,0,none⟩ = some (.int .i64 t404):=(blk_cell BK410.out 0).trans rfl;have hcz196_1 : w195.cell? ⟨gb410,1,none⟩ = some (.slice Ao194 t405.length co194):=(blk_cell BK410.out 1).trans rfl;have hcz196_2 : w195.cell? ⟨gb410,2,none⟩ = some (.int .i64 t408):=(blk_cell BK410.out 2).trans rfl;have hfz196_0:=blk_frozen BK410.out 0;have hfz196_1:=blk_frozen BK410.out 1;have hfz196_2:=blk_frozen BK410.out 2) | ((with_reducible refine gate_callee (f:=25) rfl ?_);refine goesL_ (some 190) rfl rfl Try.func25 (by kernel_rfl) rfl #[.agg #[.int .i64 t404, .slice Ao194 t405.length co194, .int .i64 t408], .int .i64 t409] rfl (by (try simp only [List.map_toArray,List.map_cons,List.map_nil]);rfl) ?_;(with_reducible refine (impl_StepOn.calls kj69 t404 _ _ t405 t408 t409 t413 t414 _ ?side1 ?side2 A93.out).mono ?_);(case side1 => repeat (exact (Kd.R_reads' HO407.out).2.2));(case side2 => exact (Kd.R_reads' HO407.out).2.1);rintro e w197 ⟨rfl,hb⟩;refine ⟨_,rfl, ?_⟩;have n0_:=Aside0.mk (Kd.R_below (by exact HO_375001.out) hb);have n1_:=Aside0.mk (Kd.R_below (by exact HO_396001.out) hb);have n2_:=Aside0.mk (Kd.R_below (by exact HO407.out) hb);have n3_:=Aside0.mk (blk_below (g:=gb374) (o := .cells #[.int .i64 t367, .slice Ao11 t368.length co11, .int .i64 t371] 38 (0,0)) (by exact BK374.out) hb);have n4_:=Aside0.mk (blk_below (g:=gb395) (o := .cells #[.int .i64 t388, .slice Ao64 t389.length co64, .int .i64 t392] 38 (0,0)) (by exact BK395.out) hb);have n5_:=Aside0.mk (blk_below (g:=gb410) (o := .cells #[.int .i64 t404, .slice Ao194 t405.length co194, .int .i64 t408] 38 (0,0)) (by exact BK410.out) hb);have n6_:=Aside0.mk (below_step (by exact HB.out) hb);clear HO_375001;clear HO_396001;clear HO407;clear BK374;clear BK395;clear BK410;clear HB;have HO_375001:=n0_;have HO_396001:=n1_;have HO407:=n2_;have BK374:=n3_;have BK395:=n4_;have BK410:=n5_;have HB:=n6_;clear n0_ n1_ n2_ n3_ n4_ n5_ n6_;(try clear hb);have hcz198_0 : w197.cell? ⟨gb410,0,none⟩ = some (.int .i64 t404):=(blk_cell BK410.out 0).trans rfl;have hcz198_1 : w197.cell? ⟨gb410,1,none⟩ = some (.slice Ao194 t405.length co194):=(blk_cell BK410.out 1).trans rfl;have hcz198_2 : w197.cell? ⟨gb410,2,none⟩ = some (.int .i64 t408):=(blk_cell BK410.out 2).trans rfl;have hfz198_0:=blk_frozen BK410.out 0;have hfz198_1:=blk_frozen BK410.out 1;have hfz198_2:=blk_frozen BK410.out 2) | ((with_reducible refine gate_callee (f:=26) rfl ?_);refine goesL_ (some 196) rfl rfl Try.func26 (by kernel_rfl) rfl #[.agg #[.int .i64 t404, .slice Ao194 t405.length co194, .int .i64 t408], .int .i64 t409] rfl (by (try simp only [List.map_toArray,List.map_cons,List.map_nil]);rfl) ?_;(with_reducible refine (spec_RateOn.calls kj69 t404 _ _ t405 t408 t409 t415 t416 _ ?side1 ?side2 A94.out).mono ?_);(case side1 => repeat (exact (Kd.R_reads' HO407.out).2.2));(case side2 => exact (Kd.R_reads' HO407.out).2.1);rintro e w199 ⟨rfl,hb⟩;refine ⟨_,rfl, ?_⟩;have n0_:=Aside0.mk (Kd.R_below (by exact HO_375001.out) hb);have n1_:=Aside0.mk (Kd.R_below (by exact HO_396001.out) hb);have n2_:=Aside0.mk (Kd.R_below (by exact HO407.out) hb);have n3_:=Aside0.mk (blk_below (g:=gb374) (o := .cells #[.int .i64 t367, .slice Ao11 t368.length co11, .int .i64 t371] 38 (0,0)) (by exact BK374.out) hb);have n4_:=Aside0.mk (blk_below (g:=gb395) (o := .cells #[.int .i64 t388, .slice Ao64 t389.length co64, .int .i64 t392] 38 (0,0)) (by exact BK395.out) hb);have n5_:=Aside0.mk (blk_below (g:=gb410) (o := .cells #[.int .i64 t404, .slice Ao194 t405.length co194, .int .i64 t408] 38 (0,0)) (by exact BK410.out) hb);have n6_:=Aside0.mk (below_step (by exact HB.out) hb);clear HO_375001;clear HO_396001;clear HO407;clear BK374;clear BK395;clear BK410;clear HB;have HO_375001:=n0_;have HO_396001:=n1_;have HO407:=n2_;have BK374:=n3_;have BK395:=n4_;have BK410:=n5_;have HB:=n6_;clear n0_ n1_ n2_ n3_ n4_ n5_ n6_;(try clear hb);have hcz200_0 : w199.cell? ⟨gb410,0,none⟩ = some (.int .i64 t404):=(blk_cell BK410.out 0).trans rfl;have hcz200_1 : w199.cell? ⟨gb410,1,none⟩ = some (.slice Ao194 t405.length co194):=(blk_cell BK410.out 1).trans rfl;have hcz200_2 : w199.cell? ⟨gb410,2,none⟩ = some (.int .i64 t408):=(blk_cell BK410.out 2).trans rfl;have hfz200_0:=blk_frozen BK410.out 0;have hfz200_1:=blk_frozen BK410.out 1;have hfz200_2:=blk_frozen BK410.out 2) | ((with_reducible refine gate_callee (f:=27) rfl ?_);refine goesL_ (some 202) rfl rfl Try.func27 (by kernel_rfl) rfl #[.agg #[.int .i64 t404, .slice Ao194 t405.length co194, .int .i64 t408], .int .i64 t409] rfl (by (try simp only [List.map_toArray,List.map_cons,List.map_nil]);rfl) ?_;(with_reducible refine (spec_StepOn.calls kj69 t404 _ _ t405 t408 t409 t417 t418 _ ?side1 ?side2 A95.out).mono ?_);(case side1 => repeat (exact (Kd.R_reads' HO407.out).2.2));(case side2 => exact (Kd.R_reads' HO407.out).2.1);rintro e w201 ⟨rfl,hb⟩;refine ⟨_,rfl, ?_⟩;have n0_:=Aside0.mk (Kd.R_below (by exact HO_375001.out) hb);have n1_:=Aside0.mk (Kd.R_below (by exact HO_396001.out) hb);have n2_:=Aside0.mk (Kd.R_below (by exact HO407.out) hb);have n3_:=Aside0.mk (blk_below (g:=gb374) (o := .cells #[.int .i64 t367, .slice Ao11 t368.length co11, .int .i64 t371] 38 (0,0)) (by exact BK374.out) hb);have n4_:=Aside0.mk (blk_below (g:=gb395) (o := .cells #[.int .i64 t388, .slice Ao64 t389.length co64, .int .i64 t392] 38 (0,0)) (by exact BK395.out) hb);have n5_:=Aside0.mk (blk_below (g:=gb410) (o := .cells #[.int .i64 t404, .slice Ao194 t405.length co194, .int .i64 t408] 38 (0,0)) (by exact BK410.out) hb);have n6_:=Aside0.mk (below_step (by exact HB.out) hb);clear HO_375001;clear HO_396001;clear HO407;clear BK374;clear BK395;clear BK410;clear HB;have HO_375001:=n0_;have HO_396001:=n1_;have HO407:=n2_;have BK374:=n3_;have BK395:=n4_;have BK410:=n5_;have HB:=n6_;clear n0_ n1_ n2_ n3_ n4_ n5_ n6_;(try clear hb)))
                    go_ret
                    exact ⟨by rfl,by exact HB.out⟩
                ·replace c126:=Bool.eq_false_iff.mpr c126
                 subst c126
                 have H1 : (some true) = some r:=by rw [if_neg (show ¬ (false = true) by decide)] at H;exact H
                 clear H
                 have H:=H1
                 clear H1
                 obtain rfl:=Option.some.inj H
                 as_aux_lemma =>
                  go_wp2_with (first | ((with_reducible refine gate_callee (f:=23) rfl ?_);refine goesL_ (some 178) rfl rfl Try.func23 (by kernel_rfl) rfl #[.slice A0 l0.length c0] rfl (by (try simp only [List.map_toArray,List.map_cons,List.map_nil]);rfl) ?_;(with_reducible refine (spec_DrawRateOn.calls kj69 _ _ l0 t404 t405 t408 t409 _ ?side1 ?side2 A91.out).mono ?_);(case side1 => repeat (exact (Kd.C_below HR0.out HB.out)));(case side2 => exact HC0.out);rintro e w202 ⟨v406,rfl,ho0,hb⟩;refine ⟨_,rfl, ?_⟩;have n0_:=Aside0.mk (Kd.R_elder' (by exact HO_375001.out) (Kd.R_base ho0) hb);have n1_:=Aside0.mk (Kd.R_elder' (by exact HO_396001.out) (Kd.R_base ho0) hb);have n2_:=Aside0.mk (Kd.R_lower (Kd.R_new' (Kd.R_new' ho0 (Kd.R_lt (by exact HO_375001.out))) (Kd.R_lt (by exact HO_396001.out))) (below_size (by exact HB.out)));have n3_:=Aside0.mk (blk_below (g:=gb374) (o := .cells #[.int .i64 t367, .slice Ao11 t368.length co11, .int .i64 t371] 38 (0,0)) (by exact BK374.out) hb);have n4_:=Aside0.mk (blk_below (g:=gb395) (o := .cells #[.int .i64 t388, .slice Ao64 t389.length co64, .int .i64 t392] 38 (0,0)) (by exact BK395.out) hb);have n5_:=Aside0.mk (below_step (by exact HB.out) hb);clear HO_375001;clear HO_396001;clear BK374;clear BK395;clear HB;have HO_375001:=n0_;have HO_396001:=n1_;have HO407:=n2_;have BK374:=n3_;have BK395:=n4_;have HB:=n5_;clear n0_ n1_ n2_ n3_ n4_ n5_;(try clear hb);(try clear ho0)) | ((with_reducible refine gate_dst (N:=25) rfl ?_);(try (refine gate_guard (by rfl) ?_;dsimp only));refine box_event ?hg (N:=25) ?hd (cs:=#[.int .i64 0, .slice none 0 0, .int .i64 0]) (t:=38) ?hr ?_;(case hd => rfl);(case hg => rfl);(case hr => (go_simp;done));intro gb410 hg w203 hbox hb;have n0_:=Aside0.mk (Kd.R_below (by exact HO_375001.out) hb);have n1_:=Aside0.mk (Kd.R_below (by exact HO_396001.out) hb);have n2_:=Aside0.mk (Kd.R_below (by exact HO407.out) hb);have n3_:=Aside0.mk (blk_below (g:=gb374) (o := .cells #[.int .i64 t367, .slice Ao11 t368.length co11, .int .i64 t371] 38 (0,0)) (by exact BK374.out) hb);have n4_:=Aside0.mk (blk_below (g:=gb395) (o := .cells #[.int .i64 t388, .slice Ao64 t389.length co64, .int .i64 t392] 38 (0,0)) (by exact BK395.out) hb);have n5_:=Aside0.mk (below_step (by exact HB.out) hb);have n6_:=Aside0.mk (hbox);have n7_:=Aside0.mk ((by rw [hg];exact (below_size (by exact HB.out)) : w.heap.size ≤ gb410));have n8_:=Aside0.mk ((by rw [hg];exact (below_size (by exact HB.out)) : w.heap.size ≤ gb410));have n9_:=Aside0.mk ((by rw [hg];exact Nat.ne_of_lt (blk_lt (g:=gb374) (o := .cells #[.int .i64 t367, .slice Ao11 t368.length co11, .int .i64 t371] 38 (0,0)) (by exact BK374.out)) : gb374 ≠ gb410));have n10_:=Aside0.mk ((by rw [hg];exact Nat.ne_of_gt (blk_lt (g:=gb374) (o := .cells #[.int .i64 t367, .slice Ao11 t368.length co11, .int .i64 t371] 38 (0,0)) (by exact BK374.out)) : gb410 ≠ gb374));have n11_:=Aside0.mk ((by rw [hg];exact Nat.ne_of_lt (blk_lt (g:=gb395) (o := .cells #[.int .i64 t388, .slice Ao64 t389.length co64, .int .i64 t392] 38 (0,0)) (by exact BK395.out)) : gb395 ≠ gb410));have n12_:=Aside0.mk ((by rw [hg];exact Nat.ne_of_gt (blk_lt (g:=gb395) (o := .cells #[.int .i64 t388, .slice Ao64 t389.length co64, .int .i64 t392] 38 (0,0)) (by exact BK395.out)) : gb410 ≠ gb395));clear HO_375001;clear HO_396001;clear HO407;clear BK374;clear BK395;clear HB;have HO_375001:=n0_;have HO_396001:=n1_;have HO407:=n2_;have BK374:=n3_;have BK395:=n4_;have HB:=n5_;have BK410:=n6_;have GW410:=n7_;have GE410:=n8_;have NB374_410:=n9_;have NB410_374:=n10_;have NB395_410:=n11_;have NB410_395:=n12_;clear n0_ n1_ n2_ n3_ n4_ n5_ n6_ n7_ n8_ n9_ n10_ n11_ n12_;clear hb hbox hg;have hnb204:=NB410_374.out;have hnc204:=NB374_410.out;have hnb205:=NB410_395.out;have hnc205:=NB395_410.out;have hcz206_0 : w203.cell? ⟨gb410,0,none⟩ = some (.int .i64 0):=(blk_cell BK410.out 0).trans rfl;have hcz206_1 : w203.cell? ⟨gb410,1,none⟩ = some (.slice none 0 0):=(blk_cell BK410.out 1).trans rfl;have hcz206_2 : w203.cell? ⟨gb410,2,none⟩ = some (.int .i64 0):=(blk_cell BK410.out 2).trans rfl;have hfz206_0:=blk_frozen BK410.out 0;have hfz206_1:=blk_frozen BK410.out 1;have hfz206_2:=blk_frozen BK410.out 2;obtain ⟨Ao207,co207,eo207⟩ := Kd.R_slice HO407.out;subst eo207) | ((with_reducible refine gate_callee (f:=24) rfl ?_);refine goesL_ (some 184) rfl rfl Try.func24 (by kernel_rfl) rfl #[.agg #[.int .i64 t404, .slice Ao207 t405.length co207, .int .i64 t408], .int .i64 t409] rfl (by (try simp only [List.map_toArray,List.map_cons,List.map_nil]);rfl) ?_;(with_reducible refine (impl_RateOn.calls kj69 t404 _ _ t405 t408 t409 t411 false _ ?side1 ?side2 A92.out).mono ?_);(case side1 => refine (Kd.R_reads' (e:=51) (base:=w.heap.size) (ok:=fun k_ => ((True ∧ some k_ ≠ (.slice Ao11 t368.length co11 : Value).ownBlock) ∧ some k_ ≠ (.slice Ao64 t389.length co64 : Value).ownBlock)) (n:=t405.length) (c:=co207) ?_).2.2;exact (by exact (Kd.R_mono (Kd.R_far (p:=⟨gb410,2,none⟩) (Kd.R_far (p:=⟨gb410,1,none⟩) (Kd.R_far (p:=⟨gb410,0,none⟩) (Kd.R_types HO407.out BK410.out (by decide)) (fun _ hk => hk.2) (.int .i64 t404)) (fun _ hk => hk.2) (.slice Ao207 t405.length co207)) (fun _ hk => hk.2) (.int .i64 t408)) (fun _ h_ => h_.1))));(case side2 => exact (Kd.R_reads' HO407.out).2.1);rintro e w208 ⟨rfl,hb⟩;refine ⟨_,rfl, ?_⟩;have n0_:=Aside0.mk (Kd.R_below (by exact (Kd.R_mono (Kd.R_far (p:=⟨gb410,2,none⟩) (Kd.R_far (p:=⟨gb410,1,none⟩) (Kd.R_far (p:=⟨gb410,0,none⟩) (Kd.R_types HO_375001.out BK410.out (by decide)) (fun _ hk => hk.2) (.int .i64 t404)) (fun _ hk => hk.2) (.slice Ao207 t405.length co207)) (fun _ hk => hk.2) (.int .i64 t408)) (fun _ h_ => h_.1))) hb);have n1_:=Aside0.mk (Kd.R_below (by exact (Kd.R_mono (Kd.R_far (p:=⟨gb410,2,none⟩) (Kd.R_far (p:=⟨gb410,1,none⟩) (Kd.R_far (p:=⟨gb410,0,none⟩) (Kd.R_types HO_396001.out BK410.out (by decide)) (fun _ hk => hk.2) (.int .i64 t404)) (fun _ hk => hk.2) (.slice Ao207 t405.length co207)) (fun _ hk => hk.2) (.int .i64 t408)) (fun _ h_ => h_.1))) hb);have n2_:=Aside0.mk (Kd.R_below (by exact (Kd.R_mono (Kd.R_far (p:=⟨gb410,2,none⟩) (Kd.R_far (p:=⟨gb410,1,none⟩) (Kd.R_far (p:=⟨gb410,0,none⟩) (Kd.R_types HO407.out BK410.out (by decide)) (fun _ hk => hk.2) (.int .i64 t404)) (fun _ hk => hk.2) (.slice Ao207 t405.length co207)) (fun _ hk => hk.2) (.int .i64 t408)) (fun _ h_ => h_.1))) hb);have n3_:=Aside0.mk (blk_below (g:=gb374) (o := .cells #[.int .i64 t367, .slice Ao11 t368.length co11, .int .i64 t371] 38 (0,0)) (by refine blk_far ?_ NB374_410.out _;refine blk_far ?_ NB374_410.out _;refine blk_far ?_ NB374_410.out _;exact BK374.out) hb);have n4_:=Aside0.mk (blk_below (g:=gb395) (o := .cells #[.int .i64 t388, .slice Ao64 t389.length co64, .int .i64 t392] 38 (0,0)) (by refine blk_far ?_ NB395_410.out _;refine blk_far ?_ NB395_410.out _;refine blk_far ?_ NB395_410.out _;exact BK395.out) hb);have n5_:=Aside0.mk (blk_below (g:=gb410) (o := .cells #[.int .i64 t404, .slice Ao207 t405.length co207, .int .i64 t408] 38 (0,0)) (by refine blk_put (cs:=#[.int .i64 t404, .slice Ao207 t405.length co207, .int .i64 0]) ?_ 2 _ rfl;refine blk_put (cs:=#[.int .i64 t404, .slice none 0 0, .int .i64 0]) ?_ 1 _ rfl;refine blk_put (cs:=#[.int .i64 0, .slice none 0 0, .int .i64 0]) ?_ 0 _ rfl;exact BK410.out) hb);have n6_:=Aside0.mk (below_step (by repeat ((with_reducible first | exact HB.out | refine below_set ?_ GE410.out))) hb);clear HO_375001;clear HO_396001;clear HO407;clear BK374;clear BK395;clear BK410;clear HB;have HO_375001:=n0_;have HO_396001:=n1_;have HO407:=n2_;have BK374:=n3_;have BK395:=n4_;have BK410:=n5_;have HB:=n6_;clear n0_ n1_ n2_ n3_ n4_ n5_ n6_;(try clear hb);have hcz209_0 : w208.cell? ⟨gb410,0,none⟩ = some (.int .i64 t404):=(blk_cell BK410.out 0).trans rfl;have hcz209_1 : w208.cell? ⟨gb410,1,none⟩ = some (.slice Ao207 t405.length co207):=(blk_cell BK410.out 1).trans rfl;have hcz209_2 : w208.cell? ⟨gb410,2,none⟩ = some (.int .i64 t408):=(blk_cell BK410.out 2).trans rfl;have hfz209_0:=blk_frozen BK410.out 0;have hfz209_1:=blk_frozen BK410.out 1;have hfz209_2:=blk_frozen BK410.out 2) | ((with_reducible refine gate_callee (f:=25) rfl ?_);refine goesL_ (some 190) rfl rfl Try.func25 (by kernel_rfl) rfl #[.agg #[.int .i64 t404, .slice Ao207 t405.length co207, .int .i64 t408], .int .i64 t409] rfl (by (try simp only [List.map_toArray,List.map_cons,List.map_nil]);rfl) ?_;(with_reducible refine (impl_StepOn.calls kj69 t404 _ _ t405 t408 t409 t413 t414 _ ?side1 ?side2 A93.out).mono ?_);(case side1 => repeat (exact (Kd.R_reads' HO407.out).2.2));(case side2 => exact (Kd.R_reads' HO407.out).2.1);rintro e w210 ⟨rfl,hb⟩;refine ⟨_,rfl, ?_⟩;have n0_:=Aside0.mk (Kd.R_below (by exact HO_375001.out) hb);have n1_:=Aside0.mk (Kd.R_below (by exact HO_396001.out) hb);have n2_:=Aside0.mk (Kd.R_below (by exact HO407.out) hb);have n3_:=Aside0.mk (blk_below (g:=gb374) (o := .cells #[.int .i64 t367, .slice Ao11 t368.length co11, .int .i64 t371] 38 (0,0)) (by exact BK374.out) hb);have n4_:=Aside0.mk (blk_below (g:=gb395) (o := .cells #[.int .i64 t388, .slice Ao64 t389.length co64, .int .i64 t392] 38 (0,0)) (by exact BK395.out) hb);have n5_:=Aside0.mk (blk_below (g:=gb410) (o := .cells #[.int .i64 t404, .slice Ao207 t405.length co207, .int .i64 t408] 38 (0,0)) (by exact BK410.out) hb);have n6_:=Aside0.mk (below_step (by exact HB.out) hb);clear HO_375001;clear HO_396001;clear HO407;clear BK374;clear BK395;clear BK410;clear HB;have HO_375001:=n0_;have HO_396001:=n1_;have HO407:=n2_;have BK374:=n3_;have BK395:=n4_;have BK410:=n5_;have HB:=n6_;clear n0_ n1_ n2_ n3_ n4_ n5_ n6_;(try clear hb);have hcz211_0 : w210.cell? ⟨gb410,0,none⟩ = some (.int .i64 t404):=(blk_cell BK410.out 0).trans rfl;have hcz211_1 : w210.cell? ⟨gb410,1,none⟩ = some (.slice Ao207 t405.length co207):=(blk_cell BK410.out 1).trans rfl;have hcz211_2 : w210.cell? ⟨gb410,2,none⟩ = some (.int .i64 t408):=(blk_cell BK410.out 2).trans rfl;have hfz211_0:=blk_frozen BK410.out 0;have hfz211_1:=blk_frozen BK410.out 1;have hfz211_2:=blk_frozen BK410.out 2) | ((with_reducible refine gate_callee (f:=26) rfl ?_);refine goesL_ (some 196) rfl rfl Try.func26 (by kernel_rfl) rfl #[.agg #[.int .i64 t404, .slice Ao207 t405.length co207, .int .i64 t408], .int .i64 t409] rfl (by (try simp only [List.map_toArray,List.map_cons,List.map_nil]);rfl) ?_;(with_reducible refine (spec_RateOn.calls kj69 t404 _ _ t405 t408 t409 t415 t416 _ ?side1 ?side2 A94.out).mono ?_);(case side1 => repeat (exact (Kd.R_reads' HO407.out).2.2));(case side2 => exact (Kd.R_reads' HO407.out).2.1);rintro e w212 ⟨rfl,hb⟩;refine ⟨_,rfl, ?_⟩;have n0_:=Aside0.mk (Kd.R_below (by exact HO_375001.out) hb);have n1_:=Aside0.mk (Kd.R_below (by exact HO_396001.out) hb);have n2_:=Aside0.mk (Kd.R_below (by exact HO407.out) hb);have n3_:=Aside0.mk (blk_below (g:=gb374) (o := .cells #[.int .i64 t367, .slice Ao11 t368.length co11, .int .i64 t371] 38 (0,0)) (by exact BK374.out) hb);have n4_:=Aside0.mk (blk_below (g:=gb395) (o := .cells #[.int .i64 t388, .slice Ao64 t389.length co64, .int .i64 t392] 38 (0,0)) (by exact BK395.out) hb);have n5_:=Aside0.mk (blk_below (g:=gb410) (o := .cells #[.int .i64 t404, .slice Ao207 t405.length co207, .int .i64 t408] 38 (0,0)) (by exact BK410.out) hb);have n6_:=Aside0.mk (below_step (by exact HB.out) hb);clear HO_375001;clear HO_396001;clear HO407;clear BK374;clear BK395;clear BK410;clear HB;have HO_375001:=n0_;have HO_396001:=n1_;have HO407:=n2_;have BK374:=n3_;have BK395:=n4_;have BK410:=n5_;have HB:=n6_;clear n0_ n1_ n2_ n3_ n4_ n5_ n6_;(try clear hb);have hcz213_0 : w212.cell? ⟨gb410,0,none⟩ = some (.int .i64 t404):=(blk_cell BK410.out 0).trans rfl;have hcz213_1 : w212.cell? ⟨gb410,1,none⟩ = some (.slice Ao207 t405.length co207):=(blk_cell BK410.out 1).trans rfl;have hcz213_2 : w212.cell? ⟨gb410,2,none⟩ = some (.int .i64 t408):=(blk_cell BK410.out 2).trans rfl;have hfz213_0:=blk_frozen BK410.out 0;have hfz213_1:=blk_frozen BK410.out 1;have hfz213_2:=blk_frozen BK410.out 2) | ((with_reducible refine gate_callee (f:=27) rfl ?_);refine goesL_ (some 202) rfl rfl Try.func27 (by kernel_rfl) rfl #[.agg #[.int .i64 t404, .slice Ao207 t405.length co207, .int .i64 t408], .int .i64 t409] rfl (by (try simp only [List.map_toArray,List.map_cons,List.map_nil]);rfl) ?_;(with_reducible refine (spec_StepOn.calls kj69 t404 _ _ t405 t408 t409 t417 t418 _ ?side1 ?side2 A95.out).mono ?_);(case side1 => repeat (exact (Kd.R_reads' HO407.out).2.2));(case side2 => exact (Kd.R_reads' HO407.out).2.1);rintro e w214 ⟨rfl,hb⟩;refine ⟨_,rfl, ?_⟩;have n0_:=Aside0.mk (Kd.R_below (by exact HO_375001.out) hb);have n1_:=Aside0.mk (Kd.R_below (by exact HO_396001.out) hb);have n2_:=Aside0.mk (Kd.R_below (by exact HO407.out) hb);have n3_:=Aside0.mk (blk_below (g:=gb374) (o := .cells #[.int .i64 t367, .slice Ao11 t368.length co11, .int .i64 t371] 38 (0,0)) (by exact BK374.out) hb);have n4_:=Aside0.mk (blk_below (g:=gb395) (o := .cells #[.int .i64 t388, .slice Ao64 t389.length co64, .int .i64 t392] 38 (0,0)) (by exact BK395.out) hb);have n5_:=Aside0.mk (blk_below (g:=gb410) (o := .cells #[.int .i64 t404, .slice Ao207 t405.length co207, .int .i64 t408] 38 (0,0)) (by exact BK410.out) hb);have n6_:=Aside0.mk (below_step (by exact HB.out) hb);clear HO_375001;clear HO_396001;clear HO407;clear BK374;clear BK395;clear BK410;clear HB;have HO_375001:=n0_;have HO_396001:=n1_;have HO407:=n2_;have BK374:=n3_;have BK395:=n4_;have BK410:=n5_;have HB:=n6_;clear n0_ n1_ n2_ n3_ n4_ n5_ n6_;(try clear hb)))
                  go_ret
                  exact ⟨by rfl,by exact HB.out⟩
              ·rw [if_neg c111] at H
               have c111b0 : (t413 == t417) = false:=beq_eq_false_iff_ne.mpr c111
               have c111b1 : (t413 != t417) = true:=bne_iff_ne.mpr c111
               obtain rfl:=Option.some.inj H
               as_aux_lemma =>
                go_wp2_with (first | ((with_reducible refine gate_callee (f:=23) rfl ?_);refine goesL_ (some 178) rfl rfl Try.func23 (by kernel_rfl) rfl #[.slice A0 l0.length c0] rfl (by (try simp only [List.map_toArray,List.map_cons,List.map_nil]);rfl) ?_;(with_reducible refine (spec_DrawRateOn.calls kj69 _ _ l0 t404 t405 t408 t409 _ ?side1 ?side2 A91.out).mono ?_);(case side1 => repeat (exact (Kd.C_below HR0.out HB.out)));(case side2 => exact HC0.out);rintro e w215 ⟨v406,rfl,ho0,hb⟩;refine ⟨_,rfl, ?_⟩;have n0_:=Aside0.mk (Kd.R_elder' (by exact HO_375001.out) (Kd.R_base ho0) hb);have n1_:=Aside0.mk (Kd.R_elder' (by exact HO_396001.out) (Kd.R_base ho0) hb);have n2_:=Aside0.mk (Kd.R_lower (Kd.R_new' (Kd.R_new' ho0 (Kd.R_lt (by exact HO_375001.out))) (Kd.R_lt (by exact HO_396001.out))) (below_size (by exact HB.out)));have n3_:=Aside0.mk (blk_below (g:=gb374) (o := .cells #[.int .i64 t367, .slice Ao11 t368.length co11, .int .i64 t371] 38 (0,0)) (by exact BK374.out) hb);have n4_:=Aside0.mk (blk_below (g:=gb395) (o := .cells #[.int .i64 t388, .slice Ao64 t389.length co64, .int .i64 t392] 38 (0,0)) (by exact BK395.out) hb);have n5_:=Aside0.mk (below_step (by exact HB.out) hb);clear HO_375001;clear HO_396001;clear BK374;clear BK395;clear HB;have HO_375001:=n0_;have HO_396001:=n1_;have HO407:=n2_;have BK374:=n3_;have BK395:=n4_;have HB:=n5_;clear n0_ n1_ n2_ n3_ n4_ n5_;(try clear hb);(try clear ho0)) | ((with_reducible refine gate_dst (N:=25) rfl ?_);(try (refine gate_guard (by rfl) ?_;dsimp only));refine box_event ?hg (N:=25) ?hd (cs:=#[.int .i64 0, .slice none 0 0, .int .i64 0]) (t:=38) ?hr ?_;(case hd => rfl);(case hg => rfl);(case hr => (go_simp;done));intro gb410 hg w216 hbox hb;have n0_:=Aside0.mk (Kd.R_below (by exact HO_375001.out) hb);have n1_:=Aside0.mk (Kd.R_below (by exact HO_396001.out) hb);have n2_:=Aside0.mk (Kd.R_below (by exact HO407.out) hb);have n3_:=Aside0.mk (blk_below (g:=gb374) (o := .cells #[.int .i64 t367, .slice Ao11 t368.length co11, .int .i64 t371] 38 (0,0)) (by exact BK374.out) hb);have n4_:=Aside0.mk (blk_below (g:=gb395) (o := .cells #[.int .i64 t388, .slice Ao64 t389.length co64, .int .i64 t392] 38 (0,0)) (by exact BK395.out) hb);have n5_:=Aside0.mk (below_step (by exact HB.out) hb);have n6_:=Aside0.mk (hbox);have n7_:=Aside0.mk ((by rw [hg];exact (below_size (by exact HB.out)) : w.heap.size ≤ gb410));have n8_:=Aside0.mk ((by rw [hg];exact (below_size (by exact HB.out)) : w.heap.size ≤ gb410));have n9_:=Aside0.mk ((by rw [hg];exact Nat.ne_of_lt (blk_lt (g:=gb374) (o := .cells #[.int .i64 t367, .slice Ao11 t368.length co11, .int .i64 t371] 38 (0,0)) (by exact BK374.out)) : gb374 ≠ gb410));have n10_:=Aside0.mk ((by rw [hg];exact Nat.ne_of_gt (blk_lt (g:=gb374) (o := .cells #[.int .i64 t367, .slice Ao11 t368.length co11, .int .i64 t371] 38 (0,0)) (by exact BK374.out)) : gb410 ≠ gb374));have n11_:=Aside0.mk ((by rw [hg];exact Nat.ne_of_lt (blk_lt (g:=gb395) (o := .cells #[.int .i64 t388, .slice Ao64 t389.length co64, .int .i64 t392] 38 (0,0)) (by exact BK395.out)) : gb395 ≠ gb410));have n12_:=Aside0.mk ((by rw [hg];exact Nat.ne_of_gt (blk_lt (g:=gb395) (o := .cells #[.int .i64 t388, .slice Ao64 t389.length co64, .int .i64 t392] 38 (0,0)) (by exact BK395.out)) : gb410 ≠ gb395));clear HO_375001;clear HO_396001;clear HO407;clear BK374;clear BK395;clear HB;have HO_375001:=n0_;have HO_396001:=n1_;have HO407:=n2_;have BK374:=n3_;have BK395:=n4_;have HB:=n5_;have BK410:=n6_;have GW410:=n7_;have GE410:=n8_;have NB374_410:=n9_;have NB410_374:=n10_;have NB395_410:=n11_;have NB410_395:=n12_;clear n0_ n1_ n2_ n3_ n4_ n5_ n6_ n7_ n8_ n9_ n10_ n11_ n12_;clear hb hbox hg;have hnb217:=NB410_374.out;have hnc217:=NB374_410.out;have hnb218:=NB410_395.out;have hnc218:=NB395_410.out;have hcz219_0 : w216.cell? ⟨gb410,0,none⟩ = some (.int .i64 0):=(blk_cell BK410.out 0).trans rfl;have hcz219_1 : w216.cell? ⟨gb410,1,none⟩ = some (.slice none 0 0):=(blk_cell BK410.out 1).trans rfl;have hcz219_2 : w216.cell? ⟨gb410,2,none⟩ = some (.int .i64 0):=(blk_cell BK410.out 2).trans rfl;have hfz219_0:=blk_frozen BK410.out 0;have hfz219_1:=blk_frozen BK410.out 1;have hfz219_2:=blk_frozen BK410.out 2;obtain ⟨Ao220,co220,eo220⟩ := Kd.R_slice HO407.out;subst eo220) | ((with_reducible refine gate_callee (f:=24) rfl ?_);refine goesL_ (some 184) rfl rfl Try.func24 (by kernel_rfl) rfl #[.agg #[.int .i64 t404, .slice Ao220 t405.length co220, .int .i64 t408], .int .i64 t409] rfl (by (try simp only [List.map_toArray,List.map_cons,List.map_nil]);rfl) ?_;(with_reducible refine (impl_RateOn.calls kj69 t404 _ _ t405 t408 t409 t411 t412 _ ?side1 ?side2 A92.out).mono ?_);(case side1 => refine (Kd.R_reads' (e:=51) (base:=w.heap.size) (ok:=fun k_ => ((True ∧ some k_ ≠ (.slice Ao11 t368.length co11 : Value).ownBlock) ∧ some k_ ≠ (.slice Ao64 t389.length co64 : Value).ownBlock)) (n:=t405.length) (c:=co220) ?_).2.2;exact (by exact (Kd.R_mono (Kd.R_far (p:=⟨gb410,2,none⟩) (Kd.R_far (p:=⟨gb410,1,none⟩) (Kd.R_far (p:=⟨gb410,0,none⟩) (Kd.R_types HO407.out BK410.out (by decide)) (fun _ hk => hk.2) (.int .i64 t404)) (fun _ hk => hk.2) (.slice Ao220 t405.length co220)) (fun _ hk => hk.2) (.int .i64 t408)) (fun _ h_ => h_.1))));(case side2 => exact (Kd.R_reads' HO407.out).2.1);rintro e w221 ⟨rfl,hb⟩;refine ⟨_,rfl, ?_⟩;have n0_:=Aside0.mk (Kd.R_below (by exact (Kd.R_mono (Kd.R_far (p:=⟨gb410,2,none⟩) (Kd.R_far (p:=⟨gb410,1,none⟩) (Kd.R_far (p:=⟨gb410,0,none⟩) (Kd.R_types HO_375001.out BK410.out (by decide)) (fun _ hk => hk.2) (.int .i64 t404)) (fun _ hk => hk.2) (.slice Ao220 t405.length co220)) (fun _ hk => hk.2) (.int .i64 t408)) (fun _ h_ => h_.1))) hb);have n1_:=Aside0.mk (Kd.R_below (by exact (Kd.R_mono (Kd.R_far (p:=⟨gb410,2,none⟩) (Kd.R_far (p:=⟨gb410,1,none⟩) (Kd.R_far (p:=⟨gb410,0,none⟩) (Kd.R_types HO_396001.out BK410.out (by decide)) (fun _ hk => hk.2) (.int .i64 t404)) (fun _ hk => hk.2) (.slice Ao220 t405.length co220)) (fun _ hk => hk.2) (.int .i64 t408)) (fun _ h_ => h_.1))) hb);have n2_:=Aside0.mk (Kd.R_below (by exact (Kd.R_mono (Kd.R_far (p:=⟨gb410,2,none⟩) (Kd.R_far (p:=⟨gb410,1,none⟩) (Kd.R_far (p:=⟨gb410,0,none⟩) (Kd.R_types HO407.out BK410.out (by decide)) (fun _ hk => hk.2) (.int .i64 t404)) (fun _ hk => hk.2) (.slice Ao220 t405.length co220)) (fun _ hk => hk.2) (.int .i64 t408)) (fun _ h_ => h_.1))) hb);have n3_:=Aside0.mk (blk_below (g:=gb374) (o := .cells #[.int .i64 t367, .slice Ao11 t368.length co11, .int .i64 t371] 38 (0,0)) (by refine blk_far ?_ NB374_410.out _;refine blk_far ?_ NB374_410.out _;refine blk_far ?_ NB374_410.out _;exact BK374.out) hb);have n4_:=Aside0.mk (blk_below (g:=gb395) (o := .cells #[.int .i64 t388, .slice Ao64 t389.length co64, .int .i64 t392] 38 (0,0)) (by refine blk_far ?_ NB395_410.out _;refine blk_far ?_ NB395_410.out _;refine blk_far ?_ NB395_410.out _;exact BK395.out) hb);have n5_:=Aside0.mk (blk_below (g:=gb410) (o := .cells #[.int .i64 t404, .slice Ao220 t405.length co220, .int .i64 t408] 38 (0,0)) (by refine blk_put (cs:=#[.int .i64 t404, .slice Ao220 t405.length co220, .int .i64 0]) ?_ 2 _ rfl;refine blk_put (cs:=#[.int .i64 t404, .slice none 0 0, .int .i64 0]) ?_ 1 _ rfl;refine blk_put (cs:=#[.int .i64 0, .slice none 0 0, .int .i64 0]) ?_ 0 _ rfl;exact BK410.out) hb);have n6_:=Aside0.mk (below_step (by repeat ((with_reducible first | exact HB.out | refine below_set ?_ GE410.out))) hb);clear HO_375001;clear HO_396001;clear HO407;clear BK374;clear BK395;clear BK410;clear HB;have HO_375001:=n0_;have HO_396001:=n1_;have HO407:=n2_;have BK374:=n3_;have BK395:=n4_;have BK410:=n5_;have HB:=n6_;clear n0_ n1_ n2_ n3_ n4_ n5_ n6_;(try clear hb);have hcz222_0 : w221.cell? ⟨gb410,0,none⟩ = some (.int .i64 t404):=(blk_cell BK410.out 0).trans rfl;have hcz222_1 : w221.cell? ⟨gb410,1,none⟩ = some (.slice Ao220 t405.length co220):=(blk_cell BK410.out 1).trans rfl;have hcz222_2 : w221.cell? ⟨gb410,2,none⟩ = some (.int .i64 t408):=(blk_cell BK410.out 2).trans rfl;have hfz222_0:=blk_frozen BK410.out 0;have hfz222_1:=blk_frozen BK410.out 1;have hfz222_2:=blk_frozen BK410.out 2) | ((with_reducible refine gate_callee (f:=25) rfl ?_);refine goesL_ (some 190) rfl rfl Try.func25 (by kernel_rfl) rfl #[.agg #[.int .i64 t404, .slice Ao220 t405.length co220, .int .i64 t408], .int .i64 t409] rfl (by (try simp only [List.map_toArray,List.map_cons,List.map_nil]);rfl) ?_;(with_reducible refine (impl_StepOn.calls kj69 t404 _ _ t405 t408 t409 t413 t414 _ ?side1 ?side2 A93.out).mono ?_);(case side1 => repeat (exact (Kd.R_reads' HO407.out).2.2));(case side2 => exact (Kd.R_reads' HO407.out).2.1);rintro e w223 ⟨rfl,hb⟩;refine ⟨_,rfl, ?_⟩;have n0_:=Aside0.mk (Kd.R_below (by exact HO_375001.out) hb);have n1_:=Aside0.mk (Kd.R_below (by exact HO_396001.out) hb);have n2_:=Aside0.mk (Kd.R_below (by exact HO407.out) hb);have n3_:=Aside0.mk (blk_below (g:=gb374) (o := .cells #[.int .i64 t367, .slice Ao11 t368.length co11, .int .i64 t371] 38 (0,0)) (by exact BK374.out) hb);have n4_:=Aside0.mk (blk_below (g:=gb395) (o := .cells #[.int .i64 t388, .slice Ao64 t389.length co64, .int .i64 t392] 38 (0,0)) (by exact BK395.out) hb);have n5_:=Aside0.mk (blk_below (g:=gb410) (o := .cells #[.int .i64 t404, .slice Ao220 t405.length co220, .int .i64 t408] 38 (0,0)) (by exact BK410.out) hb);have n6_:=Aside0.mk (below_step (by exact HB.out) hb);clear HO_375001;clear HO_396001;clear HO407;clear BK374;clear BK395;clear BK410;clear HB;have HO_375001:=n0_;have HO_396001:=n1_;have HO407:=n2_;have BK374:=n3_;have BK395:=n4_;have BK410:=n5_;have HB:=n6_;clear n0_ n1_ n2_ n3_ n4_ n5_ n6_;(try clear hb);have hcz224_0 : w223.cell? ⟨gb410,0,none⟩ = some (.int .i64 t404):=(blk_cell BK410.out 0).trans rfl;have hcz224_1 : w223.cell? ⟨gb410,1,none⟩ = some (.slice Ao220 t405.length co220):=(blk_cell BK410.out 1).trans rfl;have hcz224_2 : w223.cell? ⟨gb410,2,none⟩ = some (.int .i64 t408):=(blk_cell BK410.out 2).trans rfl;have hfz224_0:=blk_frozen BK410.out 0;have hfz224_1:=blk_frozen BK410.out 1;have hfz224_2:=blk_frozen BK410.out 2) | ((with_reducible refine gate_callee (f:=26) rfl ?_);refine goesL_ (some 196) rfl rfl Try.func26 (by kernel_rfl) rfl #[.agg #[.int .i64 t404, .slice Ao220 t405.length co220, .int .i64 t408], .int .i64 t409] rfl (by (try simp only [List.map_toArray,List.map_cons,List.map_nil]);rfl) ?_;(with_reducible refine (spec_RateOn.calls kj69 t404 _ _ t405 t408 t409 t415 t416 _ ?side1 ?side2 A94.out).mono ?_);(case side1 => repeat (exact (Kd.R_reads' HO407.out).2.2));(case side2 => exact (Kd.R_reads' HO407.out).2.1);rintro e w225 ⟨rfl,hb⟩;refine ⟨_,rfl, ?_⟩;have n0_:=Aside0.mk (Kd.R_below (by exact HO_375001.out) hb);have n1_:=Aside0.mk (Kd.R_below (by exact HO_396001.out) hb);have n2_:=Aside0.mk (Kd.R_below (by exact HO407.out) hb);have n3_:=Aside0.mk (blk_below (g:=gb374) (o := .cells #[.int .i64 t367, .slice Ao11 t368.length co11, .int .i64 t371] 38 (0,0)) (by exact BK374.out) hb);have n4_:=Aside0.mk (blk_below (g:=gb395) (o := .cells #[.int .i64 t388, .slice Ao64 t389.length co64, .int .i64 t392] 38 (0,0)) (by exact BK395.out) hb);have n5_:=Aside0.mk (blk_below (g:=gb410) (o := .cells #[.int .i64 t404, .slice Ao220 t405.length co220, .int .i64 t408] 38 (0,0)) (by exact BK410.out) hb);have n6_:=Aside0.mk (below_step (by exact HB.out) hb);clear HO_375001;clear HO_396001;clear HO407;clear BK374;clear BK395;clear BK410;clear HB;have HO_375001:=n0_;have HO_396001:=n1_;have HO407:=n2_;have BK374:=n3_;have BK395:=n4_;have BK410:=n5_;have HB:=n6_;clear n0_ n1_ n2_ n3_ n4_ n5_ n6_;(try clear hb);have hcz226_0 : w225.cell? ⟨gb410,0,none⟩ = some (.int .i64 t404):=(blk_cell BK410.out 0).trans rfl;have hcz226_1 : w225.cell? ⟨gb410,1,none⟩ = some (.slice Ao220 t405.length co220):=(blk_cell BK410.out 1).trans rfl;have hcz226_2 : w225.cell? ⟨gb410,2,none⟩ = some (.int .i64 t408):=(blk_cell BK410.out 2).trans rfl;have hfz226_0:=blk_frozen BK410.out 0;have hfz226_1:=blk_frozen BK410.out 1;have hfz226_2:=blk_frozen BK410.out 2) | ((with_reducible refine gate_callee (f:=27) rfl ?_);refine goesL_ (some 202) rfl rfl Try.func27 (by kernel_rfl) rfl #[.agg #[.int .i64 t404, .slice Ao220 t405.length co220, .int .i64 t408], .int .i64 t409] rfl (by (try simp only [List.map_toArray,List.map_cons,List.map_nil]);rfl) ?_;(with_reducible refine (spec_StepOn.calls kj69 t404 _ _ t405 t408 t409 t417 t418 _ ?side1 ?side2 A95.out).mono ?_);(case side1 => repeat (exact (Kd.R_reads' HO407.out).2.2));(case side2 => exact (Kd.R_reads' HO407.out).2.1);rintro e w227 ⟨rfl,hb⟩;refine ⟨_,rfl, ?_⟩;have n0_:=Aside0.mk (Kd.R_below (by exact HO_375001.out) hb);have n1_:=Aside0.mk (Kd.R_below (by exact HO_396001.out) hb);have n2_:=Aside0.mk (Kd.R_below (by exact HO407.out) hb);have n3_:=Aside0.mk (blk_below (g:=gb374) (o := .cells #[.int .i64 t367, .slice Ao11 t368.length co11, .int .i64 t371] 38 (0,0)) (by exact BK374.out) hb);have n4_:=Aside0.mk (blk_below (g:=gb395) (o := .cells #[.int .i64 t388, .slice Ao64 t389.length co64, .int .i64 t392] 38 (0,0)) (by exact BK395.out) hb);have n5_:=Aside0.mk (blk_below (g:=gb410) (o := .cells #[.int .i64 t404, .slice Ao220 t405.length co220, .int .i64 t408] 38 (0,0)) (by exact BK410.out) hb);have n6_:=Aside0.mk (below_step (by exact HB.out) hb);clear HO_375001;clear HO_396001;clear HO407;clear BK374;clear BK395;clear BK410;clear HB;have HO_375001:=n0_;have HO_396001:=n1_;have HO407:=n2_;have BK374:=n3_;have BK395:=n4_;have BK410:=n5_;have HB:=n6_;clear n0_ n1_ n2_ n3_ n4_ n5_ n6_;(try clear hb)))
                go_ret
                exact ⟨by rfl,by exact HB.out⟩
            ·rw [if_neg c96] at H
             have c96b0 : (t411 == t415) = false:=beq_eq_false_iff_ne.mpr c96
             have c96b1 : (t411 != t415) = true:=bne_iff_ne.mpr c96
             obtain rfl:=Option.some.inj H
             as_aux_lemma =>
              go_wp2_with (first | ((with_reducible refine gate_callee (f:=23) rfl ?_);refine goesL_ (some 178) rfl rfl Try.func23 (by kernel_rfl) rfl #[.slice A0 l0.length c0] rfl (by (try simp only [List.map_toArray,List.map_cons,List.map_nil]);rfl) ?_;(with_reducible refine (spec_DrawRateOn.calls kj69 _ _ l0 t404 t405 t408 t409 _ ?side1 ?side2 A91.out).mono ?_);(case side1 => repeat (exact (Kd.C_below HR0.out HB.out)));(case side2 => exact HC0.out);rintro e w228 ⟨v406,rfl,ho0,hb⟩;refine ⟨_,rfl, ?_⟩;have n0_:=Aside0.mk (Kd.R_elder' (by exact HO_375001.out) (Kd.R_base ho0) hb);have n1_:=Aside0.mk (Kd.R_elder' (by exact HO_396001.out) (Kd.R_base ho0) hb);have n2_:=Aside0.mk (Kd.R_lower (Kd.R_new' (Kd.R_new' ho0 (Kd.R_lt (by exact HO_375001.out))) (Kd.R_lt (by exact HO_396001.out))) (below_size (by exact HB.out)));have n3_:=Aside0.mk (blk_below (g:=gb374) (o := .cells #[.int .i64 t367, .slice Ao11 t368.length co11, .int .i64 t371] 38 (0,0)) (by exact BK374.out) hb);have n4_:=Aside0.mk (blk_below (g:=gb395) (o := .cells #[.int .i64 t388, .slice Ao64 t389.length co64, .int .i64 t392] 38 (0,0)) (by exact BK395.out) hb);have n5_:=Aside0.mk (below_step (by exact HB.out) hb);clear HO_375001;clear HO_396001;clear BK374;clear BK395;clear HB;have HO_375001:=n0_;have HO_396001:=n1_;have HO407:=n2_;have BK374:=n3_;have BK395:=n4_;have HB:=n5_;clear n0_ n1_ n2_ n3_ n4_ n5_;(try clear hb);(try clear ho0)) | ((with_reducible refine gate_dst (N:=25) rfl ?_);(try (refine gate_guard (by rfl) ?_;dsimp only));refine box_event ?hg (N:=25) ?hd (cs:=#[.int .i64 0, .slice none 0 0, .int .i64 0]) (t:=38) ?hr ?_;(case hd => rfl);(case hg => rfl);(case hr => (go_simp;done));intro gb410 hg w229 hbox hb;have n0_:=Aside0.mk (Kd.R_below (by exact HO_375001.out) hb);have n1_:=Aside0.mk (Kd.R_below (by exact HO_396001.out) hb);have n2_:=Aside0.mk (Kd.R_below (by exact HO407.out) hb);have n3_:=Aside0.mk (blk_below (g:=gb374) (o := .cells #[.int .i64 t367, .slice Ao11 t368.length co11, .int .i64 t371] 38 (0,0)) (by exact BK374.out) hb);have n4_:=Aside0.mk (blk_below (g:=gb395) (o := .cells #[.int .i64 t388, .slice Ao64 t389.length co64, .int .i64 t392] 38 (0,0)) (by exact BK395.out) hb);have n5_:=Aside0.mk (below_step (by exact HB.out) hb);have n6_:=Aside0.mk (hbox);have n7_:=Aside0.mk ((by rw [hg];exact (below_size (by exact HB.out)) : w.heap.size ≤ gb410));have n8_:=Aside0.mk ((by rw [hg];exact (below_size (by exact HB.out)) : w.heap.size ≤ gb410));have n9_:=Aside0.mk ((by rw [hg];exact Nat.ne_of_lt (blk_lt (g:=gb374) (o := .cells #[.int .i64 t367, .slice Ao11 t368.length co11, .int .i64 t371] 38 (0,0)) (by exact BK374.out)) : gb374 ≠ gb410));have n10_:=Aside0.mk ((by rw [hg];exact Nat.ne_of_gt (blk_lt (g:=gb374) (o := .cells #[.int .i64 t367, .slice Ao11 t368.length co11, .int .i64 t371] 38 (0,0)) (by exact BK374.out)) : gb410 ≠ gb374));have n11_:=Aside0.mk ((by rw [hg];exact Nat.ne_of_lt (blk_lt (g:=gb395) (o := .cells #[.int .i64 t388, .slice Ao64 t389.length co64, .int .i64 t392] 38 (0,0)) (by exact BK395.out)) : gb395 ≠ gb410));have n12_:=Aside0.mk ((by rw [hg];exact Nat.ne_of_gt (blk_lt (g:=gb395) (o := .cells #[.int .i64 t388, .slice Ao64 t389.length co64, .int .i64 t392] 38 (0,0)) (by exact BK395.out)) : gb410 ≠ gb395));clear HO_375001;clear HO_396001;clear HO407;clear BK374;clear BK395;clear HB;have HO_375001:=n0_;have HO_396001:=n1_;have HO407:=n2_;have BK374:=n3_;have BK395:=n4_;have HB:=n5_;have BK410:=n6_;have GW410:=n7_;have GE410:=n8_;have NB374_410:=n9_;have NB410_374:=n10_;have NB395_410:=n11_;have NB410_395:=n12_;clear n0_ n1_ n2_ n3_ n4_ n5_ n6_ n7_ n8_ n9_ n10_ n11_ n12_;clear hb hbox hg;have hnb230:=NB410_374.out;have hnc230:=NB374_410.out;have hnb231:=NB410_395.out;have hnc231:=NB395_410.out;have hcz232_0 : w229.cell? ⟨gb410,0,none⟩ = some (.int .i64 0):=(blk_cell BK410.out 0).trans rfl;have hcz232_1 : w229.cell? ⟨gb410,1,none⟩ = some (.slice none 0 0):=(blk_cell BK410.out 1).trans rfl;have hcz232_2 : w229.cell? ⟨gb410,2,none⟩ = some (.int .i64 0):=(blk_cell BK410.out 2).trans rfl;have hfz232_0:=blk_frozen BK410.out 0;have hfz232_1:=blk_frozen BK410.out 1;have hfz232_2:=blk_frozen BK410.out 2;obtain ⟨Ao233,co233,eo233⟩ := Kd.R_slice HO407.out;subst eo233) | ((with_reducible refine gate_callee (f:=24) rfl ?_);refine goesL_ (some 184) rfl rfl Try.func24 (by kernel_rfl) rfl #[.agg #[.int .i64 t404, .slice Ao233 t405.length co233, .int .i64 t408], .int .i64 t409] rfl (by (try simp only [List.map_toArray,List.map_cons,List.map_nil]);rfl) ?_;(with_reducible refine (impl_RateOn.calls kj69 t404 _ _ t405 t408 t409 t411 t412 _ ?side1 ?side2 A92.out).mono ?_);(case side1 => refine (Kd.R_reads' (e:=51) (base:=w.heap.size) (ok:=fun k_ => ((True ∧ some k_ ≠ (.slice Ao11 t368.length co11 : Value).ownBlock) ∧ some k_ ≠ (.slice Ao64 t389.length co64 : Value).ownBlock)) (n:=t405.length) (c:=co233) ?_).2.2;exact (by exact (Kd.R_mono (Kd.R_far (p:=⟨gb410,2,none⟩) (Kd.R_far (p:=⟨gb410,1,none⟩) (Kd.R_far (p:=⟨gb410,0,none⟩) (Kd.R_types HO407.out BK410.out (by decide)) (fun _ hk => hk.2) (.int .i64 t404)) (fun _ hk => hk.2) (.slice Ao233 t405.length co233)) (fun _ hk => hk.2) (.int .i64 t408)) (fun _ h_ => h_.1))));(case side2 => exact (Kd.R_reads' HO407.out).2.1);rintro e w234 ⟨rfl,hb⟩;refine ⟨_,rfl, ?_⟩;have n0_:=Aside0.mk (Kd.R_below (by exact (Kd.R_mono (Kd.R_far (p:=⟨gb410,2,none⟩) (Kd.R_far (p:=⟨gb410,1,none⟩) (Kd.R_far (p:=⟨gb410,0,none⟩) (Kd.R_types HO_375001.out BK410.out (by decide)) (fun _ hk => hk.2) (.int .i64 t404)) (fun _ hk => hk.2) (.slice Ao233 t405.length co233)) (fun _ hk => hk.2) (.int .i64 t408)) (fun _ h_ => h_.1))) hb);have n1_:=Aside0.mk (Kd.R_below (by exact (Kd.R_mono (Kd.R_far (p:=⟨gb410,2,none⟩) (Kd.R_far (p:=⟨gb410,1,none⟩) (Kd.R_far (p:=⟨gb410,0,none⟩) (Kd.R_types HO_396001.out BK410.out (by decide)) (fun _ hk => hk.2) (.int .i64 t404)) (fun _ hk => hk.2) (.slice Ao233 t405.length co233)) (fun _ hk => hk.2) (.int .i64 t408)) (fun _ h_ => h_.1))) hb);have n2_:=Aside0.mk (Kd.R_below (by exact (Kd.R_mono (Kd.R_far (p:=⟨gb410,2,none⟩) (Kd.R_far (p:=⟨gb410,1,none⟩) (Kd.R_far (p:=⟨gb410,0,none⟩) (Kd.R_types HO407.out BK410.out (by decide)) (fun _ hk => hk.2) (.int .i64 t404)) (fun _ hk => hk.2) (.slice Ao233 t405.length co233)) (fun _ hk => hk.2) (.int .i64 t408)) (fun _ h_ => h_.1))) hb);have n3_:=Aside0.mk (blk_below (g:=gb374) (o := .cells #[.int .i64 t367, .slice Ao11 t368.length co11, .int .i64 t371] 38 (0,0)) (by refine blk_far ?_ NB374_410.out _;refine blk_far ?_ NB374_410.out _;refine blk_far ?_ NB374_410.out _;exact BK374.out) hb);have n4_:=Aside0.mk (blk_below (g:=gb395) (o := .cells #[.int .i64 t388, .slice Ao64 t389.length co64, .int .i64 t392] 38 (0,0)) (by refine blk_far ?_ NB395_410.out _;refine blk_far ?_ NB395_410.out _;refine blk_far ?_ NB395_410.out _;exact BK395.out) hb);have n5_:=Aside0.mk (blk_below (g:=gb410) (o := .cells #[.int .i64 t404, .slice Ao233 t405.length co233, .int .i64 t408] 38 (0,0)) (by refine blk_put (cs:=#[.int .i64 t404, .slice Ao233 t405.length co233, .int .i64 0]) ?_ 2 _ rfl;refine blk_put (cs:=#[.int .i64 t404, .slice none 0 0, .int .i64 0]) ?_ 1 _ rfl;refine blk_put (cs:=#[.int .i64 0, .slice none 0 0, .int .i64 0]) ?_ 0 _ rfl;exact BK410.out) hb);have n6_:=Aside0.mk (below_step (by repeat ((with_reducible first | exact HB.out | refine below_set ?_ GE410.out))) hb);clear HO_375001;clear HO_396001;clear HO407;clear BK374;clear BK395;clear BK410;clear HB;have HO_375001:=n0_;have HO_396001:=n1_;have HO407:=n2_;have BK374:=n3_;have BK395:=n4_;have BK410:=n5_;have HB:=n6_;clear n0_ n1_ n2_ n3_ n4_ n5_ n6_;(try clear hb);have hcz235_0 : w234.cell? ⟨gb410,0,none⟩ = some (.int .i64 t404):=(blk_cell BK410.out 0).trans rfl;have hcz235_1 : w234.cell? ⟨gb410,1,none⟩ = some (.slice Ao233 t405.length co233):=(blk_cell BK410.out 1).trans rfl;have hcz235_2 : w234.cell? ⟨gb410,2,none⟩ = some (.int .i64 t408):=(blk_cell BK410.out 2).trans rfl;have hfz235_0:=blk_frozen BK410.out 0;have hfz235_1:=blk_frozen BK410.out 1;have hfz235_2:=blk_frozen BK410.out 2) | ((with_reducible refine gate_callee (f:=25) rfl ?_);refine goesL_ (some 190) rfl rfl Try.func25 (by kernel_rfl) rfl #[.agg #[.int .i64 t404, .slice Ao233 t405.length co233, .int .i64 t408], .int .i64 t409] rfl (by (try simp only [List.map_toArray,List.map_cons,List.map_nil]);rfl) ?_;(with_reducible refine (impl_StepOn.calls kj69 t404 _ _ t405 t408 t409 t413 t414 _ ?side1 ?side2 A93.out).mono ?_);(case side1 => repeat (exact (Kd.R_reads' HO407.out).2.2));(case side2 => exact (Kd.R_reads' HO407.out).2.1);rintro e w236 ⟨rfl,hb⟩;refine ⟨_,rfl, ?_⟩;have n0_:=Aside0.mk (Kd.R_below (by exact HO_375001.out) hb);have n1_:=Aside0.mk (Kd.R_below (by exact HO_396001.out) hb);have n2_:=Aside0.mk (Kd.R_below (by exact HO407.out) hb);have n3_:=Aside0.mk (blk_below (g:=gb374) (o := .cells #[.int .i64 t367, .slice Ao11 t368.length co11, .int .i64 t371] 38 (0,0)) (by exact BK374.out) hb);have n4_:=Aside0.mk (blk_below (g:=gb395) (o := .cells #[.int .i64 t388, .slice Ao64 t389.length co64, .int .i64 t392] 38 (0,0)) (by exact BK395.out) hb);have n5_:=Aside0.mk (blk_below (g:=gb410) (o := .cells #[.int .i64 t404, .slice Ao233 t405.length co233, .int .i64 t408] 38 (0,0)) (by exact BK410.out) hb);have n6_:=Aside0.mk (below_step (by exact HB.out) hb);clear HO_375001;clear HO_396001;clear HO407;clear BK374;clear BK395;clear BK410;clear HB;have HO_375001:=n0_;have HO_396001:=n1_;have HO407:=n2_;have BK374:=n3_;have BK395:=n4_;have BK410:=n5_;have HB:=n6_;clear n0_ n1_ n2_ n3_ n4_ n5_ n6_;(try clear hb);have hcz237_0 : w236.cell? ⟨gb410,0,none⟩ = some (.int .i64 t404):=(blk_cell BK410.out 0).trans rfl;have hcz237_1 : w236.cell? ⟨gb410,1,none⟩ = some (.slice Ao233 t405.length co233):=(blk_cell BK410.out 1).trans rfl;have hcz237_2 : w236.cell? ⟨gb410,2,none⟩ = some (.int .i64 t408):=(blk_cell BK410.out 2).trans rfl;have hfz237_0:=blk_frozen BK410.out 0;have hfz237_1:=blk_frozen BK410.out 1;have hfz237_2:=blk_frozen BK410.out 2) | ((with_reducible refine gate_callee (f:=26) rfl ?_);refine goesL_ (some 196) rfl rfl Try.func26 (by kernel_rfl) rfl #[.agg #[.int .i64 t404, .slice Ao233 t405.length co233, .int .i64 t408], .int .i64 t409] rfl (by (try simp only [List.map_toArray,List.map_cons,List.map_nil]);rfl) ?_;(with_reducible refine (spec_RateOn.calls kj69 t404 _ _ t405 t408 t409 t415 t416 _ ?side1 ?side2 A94.out).mono ?_);(case side1 => repeat (exact (Kd.R_reads' HO407.out).2.2));(case side2 => exact (Kd.R_reads' HO407.out).2.1);rintro e w238 ⟨rfl,hb⟩;refine ⟨_,rfl, ?_⟩;have n0_:=Aside0.mk (Kd.R_below (by exact HO_375001.out) hb);have n1_:=Aside0.mk (Kd.R_below (by exact HO_396001.out) hb);have n2_:=Aside0.mk (Kd.R_below (by exact HO407.out) hb);have n3_:=Aside0.mk (blk_below (g:=gb374) (o := .cells #[.int .i64 t367, .slice Ao11 t368.length co11, .int .i64 t371] 38 (0,0)) (by exact BK374.out) hb);have n4_:=Aside0.mk (blk_below (g:=gb395) (o := .cells #[.int .i64 t388, .slice Ao64 t389.length co64, .int .i64 t392] 38 (0,0)) (by exact BK395.out) hb);have n5_:=Aside0.mk (blk_below (g:=gb410) (o := .cells #[.int .i64 t404, .slice Ao233 t405.length co233, .int .i64 t408] 38 (0,0)) (by exact BK410.out) hb);have n6_:=Aside0.mk (below_step (by exact HB.out) hb);clear HO_375001;clear HO_396001;clear HO407;clear BK374;clear BK395;clear BK410;clear HB;have HO_375001:=n0_;have HO_396001:=n1_;have HO407:=n2_;have BK374:=n3_;have BK395:=n4_;have BK410:=n5_;have HB:=n6_;clear n0_ n1_ n2_ n3_ n4_ n5_ n6_;(try clear hb);have hcz239_0 : w238.cell? ⟨gb410,0,none⟩ = some (.int .i64 t404):=(blk_cell BK410.out 0).trans rfl;have hcz239_1 : w238.cell? ⟨gb410,1,none⟩ = some (.slice Ao233 t405.length co233):=(blk_cell BK410.out 1).trans rfl;have hcz239_2 : w238.cell? ⟨gb410,2,none⟩ = some (.int .i64 t408):=(blk_cell BK410.out 2).trans rfl;have hfz239_0:=blk_frozen BK410.out 0;have hfz239_1:=blk_frozen BK410.out 1;have hfz239_2:=blk_frozen BK410.out 2) | ((with_reducible refine gate_callee (f:=27) rfl ?_);refine goesL_ (some 202) rfl rfl Try.func27 (by kernel_rfl) rfl #[.agg #[.int .i64 t404, .slice Ao233 t405.length co233, .int .i64 t408], .int .i64 t409] rfl (by (try simp only [List.map_toArray,List.map_cons,List.map_nil]);rfl) ?_;(with_reducible refine (spec_StepOn.calls kj69 t404 _ _ t405 t408 t409 t417 t418 _ ?side1 ?side2 A95.out).mono ?_);(case side1 => repeat (exact (Kd.R_reads' HO407.out).2.2));(case side2 => exact (Kd.R_reads' HO407.out).2.1);rintro e w240 ⟨rfl,hb⟩;refine ⟨_,rfl, ?_⟩;have n0_:=Aside0.mk (Kd.R_below (by exact HO_375001.out) hb);have n1_:=Aside0.mk (Kd.R_below (by exact HO_396001.out) hb);have n2_:=Aside0.mk (Kd.R_below (by exact HO407.out) hb);have n3_:=Aside0.mk (blk_below (g:=gb374) (o := .cells #[.int .i64 t367, .slice Ao11 t368.length co11, .int .i64 t371] 38 (0,0)) (by exact BK374.out) hb);have n4_:=Aside0.mk (blk_below (g:=gb395) (o := .cells #[.int .i64 t388, .slice Ao64 t389.length co64, .int .i64 t392] 38 (0,0)) (by exact BK395.out) hb);have n5_:=Aside0.mk (blk_below (g:=gb410) (o := .cells #[.int .i64 t404, .slice Ao233 t405.length co233, .int .i64 t408] 38 (0,0)) (by exact BK410.out) hb);have n6_:=Aside0.mk (below_step (by exact HB.out) hb);clear HO_375001;clear HO_396001;clear HO407;clear BK374;clear BK395;clear BK410;clear HB;have HO_375001:=n0_;have HO_396001:=n1_;have HO407:=n2_;have BK374:=n3_;have BK395:=n4_;have BK410:=n5_;have HB:=n6_;clear n0_ n1_ n2_ n3_ n4_ n5_ n6_;(try clear hb)))
              go_ret
              exact ⟨by rfl,by exact HB.out⟩

/-- THE ONE PURE STATEMENT of laws_FnCharges: yours. -/
def laws_FnCharges.Pure : Prop := ∀ (l0 : List Int),l0.length ≤ maxLen → l0.length * 1 ≤ 140737488351232 → (∀ x ∈ l0,(Lit.int .u8 x).wf = true) → ∃ k,laws_FnCharges.f k l0 = some true
theorem laws_FnCharges.walk (P : laws_FnCharges.Pure) (a0 : Option Addr) (len0 cap0 : Nat) (z0 : List Int) (w : World) (w0 : (a0 = none ∧ len0 = 0 ∧ cap0 = 0 ∧ z0 = []) ∨ ∃ x,a0 = some x ∧ len0 ≤ cap0 ∧ cap0 ≤ maxLen ∧ z0.length = cap0 ∧ (∀ i,i < z0.length → w.cell? (x.add i) = some (.int .u8 (z0.getD i 0))) ∧ ∀ n ∈ z0,(Lit.int .u8 n).wf = true) (y0 : len0 * 1 ≤ 140737488351232) :
  Calls Try.prog 4 #[.slice a0 len0 cap0] w fun e w' => e = .returned (.bool true) ∧ Below w.heap.size w w':=by
 obtain ⟨l0,rfl,hr0,hm0,hw0,hc0⟩ := ReadsInt.ofRowC w0
 obtain ⟨k,h⟩ := P l0 hm0 y0 hw0
 refine (laws_FnCharges.calls k _ _ l0 true w (Kd.C_of_reads (d:=(0 : Int)) (h1:=fun _ => rfl) hr0) hc0 h).mono ?_
 rintro e w' ⟨rfl,hd⟩
 exact ⟨rfl,hd⟩

end Go.Proofs.Ytafdafmoiocjgaa.PFnCharges
