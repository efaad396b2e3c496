-- Written by a program of this session, over the kit's print (wip/xprint.py)
import Derived.Test.YthogpinmmddicaaDoorPFnExactParseChargex0
import Derived.Test.YthogpinmmddicaaDoorPFnExactParseChargex3
import Derived.Test.YthogpinmmddicaaDoorPFnExactParseChargex5
import Derived.Test.YthogpinmmddicaaDoorPFnExactParseChargex6
namespace Go.Proofs.YthogpinmmddicaaDoor.PFnExactParseCharge
open Go.RowKit Go.Proofs.YthogpinmmddicaaDoorW.PrintWords Go.Proofs.YthogpinmmddicaaDoorW.PrintLast Go.Proofs.YthogpinmmddicaaDoorW.PrintMore
attribute [local go_sem] max2_int min2_int max_two min_two max_three min_three max_four min_four   -- for this text's walks alone
set_option linter.unusedVariables false
set_option linter.unusedSimpArgs false

/-! ### laws_FnExactParseCharge: function 3 -/
mutual
def laws_FnExactParseCharge.j0 : Nat → ByteArray → Bool → Bool → Int → List (S35) → Int → Int → List (S35) → Int → Option (Bool)
 | 0,_,_,_,_,_,_,_,_,_ => none
 | k + 1,x0,x4,x32,x243000,x243001,x243002,x250000,x250001,x250002 => if x32 = true then (some false) else ((laws_markCharge.f k x250000 x250001 x250002 1).bind fun bt251 => ((laws_heldCharge.f k x250000 bt251.2 x250002 1).bind fun t253 => (if t253 < 0 then (some false) else (if t253 = bt251.1 then ((impl_ParseCharge.f k x0).bind fun bt254 => ((laws_eqCharge.f k bt254.1 bt254.2.1 bt254.2.2.1 x243000 x243001 x243002).bind fun t261 => (if t261 = true then (laws_FnExactParseCharge.j1 k bt251.1 (bt254.2.2.2 != x4) x250000 bt251.2 x250002) else (laws_FnExactParseCharge.j1 k bt251.1 true x250000 bt251.2 x250002)))) else (some false)))))
def laws_FnExactParseCharge.j1 : Nat → Int → Bool → Int → List (S35) → Int → Option (Bool)
 | 0,_,_,_,_,_ => none
 | k + 1,x7,x57,x250000,x250001,x250002 => if x57 = true then (some false) else ((laws_heldCharge.f k x250000 x250001 x250002 1).bind fun t262 => (if t262 < 0 then (some false) else (if t262 = x7 then (some true) else (some false))))
end
def laws_FnExactParseCharge.f (k : Nat) (a0 : ByteArray) : Option (Bool):=if (a0.size : Int) > 1048576 then (some true) else ((spec_ParseCharge.f k a0).bind fun bt236 => ((impl_ParseCharge.f k a0).bind fun bt243 => ((laws_eqCharge.f k bt243.1 bt243.2.1 bt243.2.2.1 bt236.1 bt236.2.1 bt236.2.2.1).bind fun t250 => (if t250 = true then (laws_FnExactParseCharge.j0 k a0 bt236.2.2.2 (bt243.2.2.2 != bt236.2.2.2) bt236.1 bt236.2.1 bt236.2.2.1 bt243.1 bt243.2.1 bt243.2.2.1) else (laws_FnExactParseCharge.j0 k a0 bt236.2.2.2 true bt236.1 bt236.2.1 bt236.2.2.1 bt243.1 bt243.2.1 bt243.2.2.1)))))
theorem laws_FnExactParseCharge.mono_l : ∀ k,(∀ y0 y1 y2 y3 y4 y5 y6 y7 y8,LeO (laws_FnExactParseCharge.j0 k y0 y1 y2 y3 y4 y5 y6 y7 y8) (laws_FnExactParseCharge.j0 (k + 1) y0 y1 y2 y3 y4 y5 y6 y7 y8)) ∧ (∀ y0 y1 y2 y3 y4,LeO (laws_FnExactParseCharge.j1 k y0 y1 y2 y3 y4) (laws_FnExactParseCharge.j1 (k + 1) y0 y1 y2 y3 y4))
 | 0 => ⟨fun _ _ _ _ _ _ _ _ _ r h => by simp [laws_FnExactParseCharge.j0] at h,fun _ _ _ _ _ r h => by simp [laws_FnExactParseCharge.j1] at h⟩
 | k + 1 => by
  obtain ⟨ih0,ih1⟩ := laws_FnExactParseCharge.mono_l k
  refine ⟨?_, ?_⟩
  ·intro y0 y1 y2 y3 y4 y5 y6 y7 y8
   unfold laws_FnExactParseCharge.j0
   repeat' first
   | (with_reducible exact ih0 _ _ _ _ _ _ _ _ _)
   | (with_reducible exact ih1 _ _ _ _ _)
   | (with_reducible exact impl_ParseCharge.mono _ _)
   | (with_reducible exact laws_eqCharge.mono _ _ _ _ _ _ _)
   | (with_reducible exact laws_heldCharge.mono _ _ _ _ _)
   | (with_reducible exact laws_markCharge.mono _ _ _ _ _)
   | (with_reducible exact spec_ParseCharge.mono _ _)
   | (with_reducible exact LeO.refl _)
   | (with_reducible exact LeO.none _)
   | (with_reducible refine LeO.ite ?_ ?_)
   | (with_reducible refine LeO.bind ?_ (fun _ => ?_))
   | exact ih0 _ _ _ _ _ _ _ _ _
   | exact ih1 _ _ _ _ _
   | exact impl_ParseCharge.mono _ _
   | exact laws_eqCharge.mono _ _ _ _ _ _ _
   | exact laws_heldCharge.mono _ _ _ _ _
   | exact laws_markCharge.mono _ _ _ _ _
   | exact spec_ParseCharge.mono _ _
   | exact LeO.none _
   | refine LeO.ite ?_ ?_
   | refine LeO.bind ?_ (fun _ => ?_)
  ·intro y0 y1 y2 y3 y4
   unfold laws_FnExactParseCharge.j1
   repeat' first
   | (with_reducible exact ih0 _ _ _ _ _ _ _ _ _)
   | (with_reducible exact ih1 _ _ _ _ _)
   | (with_reducible exact impl_ParseCharge.mono _ _)
   | (with_reducible exact laws_eqCharge.mono _ _ _ _ _ _ _)
   | (with_reducible exact laws_heldCharge.mono _ _ _ _ _)
   | (with_reducible exact laws_markCharge.mono _ _ _ _ _)
   | (with_reducible exact spec_ParseCharge.mono _ _)
   | (with_reducible exact LeO.refl _)
   | (with_reducible exact LeO.none _)
   | (with_reducible refine LeO.ite ?_ ?_)
   | (with_reducible refine LeO.bind ?_ (fun _ => ?_))
   | exact ih0 _ _ _ _ _ _ _ _ _
   | exact ih1 _ _ _ _ _
   | exact impl_ParseCharge.mono _ _
   | exact laws_eqCharge.mono _ _ _ _ _ _ _
   | exact laws_heldCharge.mono _ _ _ _ _
   | exact laws_markCharge.mono _ _ _ _ _
   | exact spec_ParseCharge.mono _ _
   | exact LeO.none _
   | refine LeO.ite ?_ ?_
   | refine LeO.bind ?_ (fun _ => ?_)
theorem laws_FnExactParseCharge.mono : ∀ a0 k,LeO (laws_FnExactParseCharge.f k a0) (laws_FnExactParseCharge.f (k + 1) a0):=by
 intro a0 k
 obtain ⟨ih0,ih1⟩ := laws_FnExactParseCharge.mono_l k
 unfold laws_FnExactParseCharge.f
 repeat' first
   | (with_reducible exact ih0 _ _ _ _ _ _ _ _ _)
   | (with_reducible exact ih1 _ _ _ _ _)
   | (with_reducible exact impl_ParseCharge.mono _ _)
   | (with_reducible exact laws_eqCharge.mono _ _ _ _ _ _ _)
   | (with_reducible exact laws_heldCharge.mono _ _ _ _ _)
   | (with_reducible exact laws_markCharge.mono _ _ _ _ _)
   | (with_reducible exact spec_ParseCharge.mono _ _)
   | (with_reducible exact LeO.refl _)
   | (with_reducible exact LeO.none _)
   | (with_reducible refine LeO.ite ?_ ?_)
   | (with_reducible refine LeO.bind ?_ (fun _ => ?_))
   | exact ih0 _ _ _ _ _ _ _ _ _
   | exact ih1 _ _ _ _ _
   | exact impl_ParseCharge.mono _ _
   | exact laws_eqCharge.mono _ _ _ _ _ _ _
   | exact laws_heldCharge.mono _ _ _ _ _
   | exact laws_markCharge.mono _ _ _ _ _
   | exact spec_ParseCharge.mono _ _
   | exact LeO.none _
   | refine LeO.ite ?_ ?_
   | refine LeO.bind ?_ (fun _ => ?_)
set_option maxHeartbeats 8000000 in
set_option maxRecDepth 100000 in
theorem laws_FnExactParseCharge.calls (k : Nat) (a0 : ByteArray) (r : Bool) (w : World) (hT : Go.Proofs.YthogpinmmddicaaDoorW.Met.Met w) (h : laws_FnExactParseCharge.f k a0 = some r) :
  Calls Tryd.prog 3 #[.string a0] w fun e w' => e = .returned (.bool r) ∧ Below w.heap.size w w':=by
 have hu24:=Tryd.underlying24
 have HB:=Aside0.mk (Below.refl w.heap.size w)
 have H : (if (a0.size : Int) > 1048576 then (some true) else ((spec_ParseCharge.f k a0).bind fun bt236 => ((impl_ParseCharge.f k a0).bind fun bt243 => ((laws_eqCharge.f k bt243.1 bt243.2.1 bt243.2.2.1 bt236.1 bt236.2.1 bt236.2.2.1).bind fun t250 => (if t250 = true then (laws_FnExactParseCharge.j0 k a0 bt236.2.2.2 (bt243.2.2.2 != bt236.2.2.2) bt236.1 bt236.2.1 bt236.2.2.1 bt243.1 bt243.2.1 bt243.2.2.1) else (laws_FnExactParseCharge.j0 k a0 bt236.2.2.2 true bt236.1 bt236.2.1 bt236.2.2.1 bt243.1 bt243.2.1 bt243.2.2.1)))))) = some r:=h
 clear h
 by_cases c2 : (a0.size : Int) > 1048576
 ·rw [if_pos c2] at H
  have c2b0 : decide (1048576 < (a0.size : Int)) = true:=decide_eq_true c2
  have c2b1 : decide (1048576 < a0.size) = true:=decide_eq_true (by omega)
  clear c2
  obtain rfl:=Option.some.inj H
  go_enter Tryd.func3,Tryd.ntmps3
  go_wp2
  go_ret
  exact ⟨by rfl,by exact HB.out⟩
 ·rw [if_neg c2] at H
  have c2b0 : decide (1048576 < (a0.size : Int)) = false:=decide_eq_false c2
  have c2b1 : decide (1048576 < a0.size) = false:=decide_eq_false (by omega)
  clear c2
  replace H:=Option.bind_eq_some_iff.mp H
  obtain ⟨⟨t236,t237,t240,t241⟩,A30,H⟩ := H
  replace H : ((impl_ParseCharge.f k a0).bind fun bt243 => ((laws_eqCharge.f k bt243.1 bt243.2.1 bt243.2.2.1 t236 t237 t240).bind fun t250 => (if t250 = true then (laws_FnExactParseCharge.j0 k a0 t241 (bt243.2.2.2 != t241) t236 t237 t240 bt243.1 bt243.2.1 bt243.2.2.1) else (laws_FnExactParseCharge.j0 k a0 t241 true t236 t237 t240 bt243.1 bt243.2.1 bt243.2.2.1)))) = some r:=H
  have A3:=Aside0.mk A30
  clear A30
  replace H:=Option.bind_eq_some_iff.mp H
  obtain ⟨⟨t243,t244,t247,t248⟩,A40,H⟩ := H
  replace H : ((laws_eqCharge.f k t243 t244 t247 t236 t237 t240).bind fun t250 => (if t250 = true then (laws_FnExactParseCharge.j0 k a0 t241 (t248 != t241) t236 t237 t240 t243 t244 t247) else (laws_FnExactParseCharge.j0 k a0 t241 true t236 t237 t240 t243 t244 t247))) = some r:=H
  have A4:=Aside0.mk A40
  clear A40
  have HC5:=Aside0.mk H
  clear H
  go_enter Tryd.func3,Tryd.ntmps3
  go_upto_region 5 with (first | ((with_reducible refine gate_callee (f:=4) rfl ?_);refine goesL_ (some 16) rfl rfl Tryd.func4 (by kernel_rfl) rfl #[.string a0] rfl (by (try simp only [List.map_toArray,List.map_cons,List.map_nil]);rfl) ?_;(with_reducible refine (spec_ParseCharge.calls k a0 t236 t237 t240 t241 _ A3.out).mono ?_);rintro e w6 ⟨v238,rfl,ho0,hb⟩;refine ⟨_,rfl, ?_⟩;have n0_:=Aside0.mk (Kd.R_lower ho0 (below_size (by exact HB.out)));have n1_:=Aside0.mk (below_step (by exact HB.out) hb);clear HB;have HO239:=n0_;have HB:=n1_;clear n0_ n1_;(try clear hb);(try clear ho0)) | ((with_reducible refine gate_dst (N:=3) rfl ?_);refine box_event ?hg (N:=3) ?hd (cs:=#[.int .i64 0, .slice none 0 0, .int .i64 0]) (t:=24) ?hr ?_;(case hd => rfl);(case hg => rfl);(case hr => (go_simp;done));intro gb242 hg w7 hbox hb;have n0_:=Aside0.mk (Kd.R_below (by exact HO239.out) hb);have n1_:=Aside0.mk (below_step (by exact HB.out) hb);have n2_:=Aside0.mk (hbox);have n3_:=Aside0.mk ((by rw [hg];exact (below_size (by exact HB.out)) : w.heap.size ≤ gb242));have n4_:=Aside0.mk ((by rw [hg];exact (below_size (by exact HB.out)) : w.heap.size ≤ gb242));clear HO239;clear HB;have HO239:=n0_;have HB:=n1_;have BK242:=n2_;have GW242:=n3_;have GE242:=n4_;clear n0_ n1_ n2_ n3_ n4_;clear hb hbox hg;have hcz8_0 : w7.cell? ⟨gb242,0,none⟩ = some (.int .i64 0):=(blk_cell BK242.out 0).trans rfl;have hcz8_1 : w7.cell? ⟨gb242,1,none⟩ = some (.slice none 0 0):=(blk_cell BK242.out 1).trans rfl;have hcz8_2 : w7.cell? ⟨gb242,2,none⟩ = some (.int .i64 0):=(blk_cell BK242.out 2).trans rfl;have hfz8_0:=blk_frozen BK242.out 0;have hfz8_1:=blk_frozen BK242.out 1;have hfz8_2:=blk_frozen BK242.out 2;obtain ⟨Ao9,co9,eo9⟩ := Kd.R_slice HO239.out;subst eo9) | ((with_reducible refine gate_callee (f:=5) rfl ?_);refine goesL_ (some 21) rfl rfl Tryd.func5 (by kernel_rfl) rfl #[.string a0] rfl (by (try simp only [List.map_toArray,List.map_cons,List.map_nil]);rfl) ?_;(with_reducible refine (impl_ParseCharge.calls (hT:=?sgT) k a0 t243 t244 t247 t248 _ A4.out).mono ?_);(case sgT => exact Go.Proofs.YthogpinmmddicaaDoorW.Met.Met.below hT (by repeat ((with_reducible first | exact HB.out | refine below_set ?_ GE242.out))));rintro e w10 ⟨v245,rfl,ho0,hb⟩;refine ⟨_,rfl, ?_⟩;have n0_:=Aside0.mk (Kd.R_elder' (by exact (Kd.R_mono (Kd.R_far (p:=⟨gb242,2,none⟩) (Kd.R_far (p:=⟨gb242,1,none⟩) (Kd.R_far (p:=⟨gb242,0,none⟩) (Kd.R_types HO239.out BK242.out (by decide)) (fun _ hk => hk.2) (.int .i64 t236)) (fun _ hk => hk.2) (.slice Ao9 t237.length co9)) (fun _ hk => hk.2) (.int .i64 t240)) (fun _ h_ => h_.1))) (Kd.R_base ho0) hb);have n1_:=Aside0.mk (Kd.R_lower (Kd.R_new' ho0 (Kd.R_lt (by exact (Kd.R_mono (Kd.R_far (p:=⟨gb242,2,none⟩) (Kd.R_far (p:=⟨gb242,1,none⟩) (Kd.R_far (p:=⟨gb242,0,none⟩) (Kd.R_types HO239.out BK242.out (by decide)) (fun _ hk => hk.2) (.int .i64 t236)) (fun _ hk => hk.2) (.slice Ao9 t237.length co9)) (fun _ hk => hk.2) (.int .i64 t240)) (fun _ h_ => h_.1))))) (below_size (by repeat ((with_reducible first | exact HB.out | refine below_set ?_ GE242.out)))));have n2_:=Aside0.mk (blk_below (g:=gb242) (o := .cells #[.int .i64 t236, .slice Ao9 t237.length co9, .int .i64 t240] 24 (0,0)) (by refine blk_put (cs:=#[.int .i64 t236, .slice Ao9 t237.length co9, .int .i64 0]) ?_ 2 _ rfl;refine blk_put (cs:=#[.int .i64 t236, .slice none 0 0, .int .i64 0]) ?_ 1 _ rfl;refine blk_put (cs:=#[.int .i64 0, .slice none 0 0, .int .i64 0]) ?_ 0 _ rfl;exact BK242.out) hb);have n3_:=Aside0.mk (below_step (by repeat ((with_reducible first | exact HB.out | refine below_set ?_ GE242.out))) hb);clear HO239;clear BK242;clear HB;have HO239:=n0_;have HO246:=n1_;have BK242:=n2_;have HB:=n3_;clear n0_ n1_ n2_ n3_;(try clear hb);(try clear ho0)) | ((with_reducible refine gate_dst (N:=5) rfl ?_);refine box_event ?hg (N:=5) ?hd (cs:=#[.int .i64 0, .slice none 0 0, .int .i64 0]) (t:=24) ?hr ?_;(case hd => rfl);(case hg => rfl);(case hr => (go_simp;done));intro gb249 hg w11 hbox hb;have n0_:=Aside0.mk (Kd.R_below (by exact HO239.out) hb);have n1_:=Aside0.mk (Kd.R_below (by exact HO246.out) hb);have n2_:=Aside0.mk (blk_below (g:=gb242) (o := .cells #[.int .i64 t236, .slice Ao9 t237.length co9, .int .i64 t240] 24 (0,0)) (by exact BK242.out) hb);have n3_:=Aside0.mk (below_step (by exact HB.out) hb);have n4_:=Aside0.mk (hbox);have n5_:=Aside0.mk ((by rw [hg];exact (below_size (by exact HB.out)) : w.heap.size ≤ gb249));have n6_:=Aside0.mk ((by rw [hg];exact (below_size (by exact HB.out)) : w.heap.size ≤ gb249));have n7_:=Aside0.mk ((by rw [hg];exact Nat.ne_of_lt (blk_lt (g:=gb242) (o := .cells #[.int .i64 t236, .slice Ao9 t237.length co9, .int .i64 t240] 24 (0,0)) (by exact BK242.out)) : gb242 ≠ gb249));have n8_:=Aside0.mk ((by rw [hg];exact Nat.ne_of_gt (blk_lt (g:=gb242) (o := .cells #[.int .i64 t236, .slice Ao9 t237.length co9, .int .i64 t240] 24 (0,0)) (by exact BK242.out)) : gb249 ≠ gb242));clear HO239;clear HO246;clear BK242;clear HB;have HO239:=n0_;have HO246:=n1_;have BK242:=n2_;have HB:=n3_;have BK249:=n4_;have GW249:=n5_;have GE249:=n6_;have NB242_249:=n7_;have NB249_242:=n8_;clear n0_ n1_ n2_ n3_ n4_ n5_ n6_ n7_ n8_;clear hb hbox hg;have hnb12:=NB249_242.out;have hnc12:=NB242_249.out;have hcz13_0 : w11.cell? ⟨gb249,0,none⟩ = some (.int .i64 0):=(blk_cell BK249.out 0).trans rfl;have hcz13_1 : w11.cell? ⟨gb249,1,none⟩ = some (.slice none 0 0):=(blk_cell BK249.out 1).trans rfl;have hcz13_2 : w11.cell? ⟨gb249,2,none⟩ = some (.int .i64 0):=(blk_cell BK249.out 2).trans rfl;have hfz13_0:=blk_frozen BK249.out 0;have hfz13_1:=blk_frozen BK249.out 1;have hfz13_2:=blk_frozen BK249.out 2;obtain ⟨Ao14,co14,eo14⟩ := Kd.R_slice HO246.out;subst eo14))
  (skip)
  go_cut [32] (fun v32 wc => ∃ (kq : Nat) (x32_4 : Bool),v32 = .bool x32_4 ∧ Aside0 (laws_FnExactParseCharge.j0 kq a0 t241 x32_4 t236 t237 t240 t243 t244 t247 = some r) ∧ Aside0 (kq ≤ k) ∧ Aside0 (Kd.R k35 35 wc w.heap.size (fun k_ => some k_ ≠ ((.slice Ao14 t244.length co14) : Value).ownBlock) (.slice Ao9 t237.length co9) t237) ∧ Aside0 (Kd.R k35 35 wc w.heap.size (fun k_ => some k_ ≠ ((.slice Ao9 t237.length co9) : Value).ownBlock) (.slice Ao14 t244.length co14) t244) ∧ Aside0 (wc.heap[gb242]? = some (.cells #[.int .i64 t236,(.slice Ao9 t237.length co9), .int .i64 t240] 24 (0,0))) ∧ Aside0 (wc.heap[gb249]? = some (.cells #[.int .i64 t243,(.slice Ao14 t244.length co14), .int .i64 t247] 24 (0,0))) ∧ Aside0 (Below w.heap.size w wc))
  case first =>
   have H:=HC5.out
   clear HC5
   replace H:=Option.bind_eq_some_iff.mp H
   obtain ⟨t250,A150,H⟩ := H
   replace H : (if t250 = true then (laws_FnExactParseCharge.j0 k a0 t241 (t248 != t241) t236 t237 t240 t243 t244 t247) else (laws_FnExactParseCharge.j0 k a0 t241 true t236 t237 t240 t243 t244 t247)) = some r:=H
   have A15:=Aside0.mk A150
   clear A150
   by_cases c16 : t250 = true
   ·subst c16
    have H1 : (laws_FnExactParseCharge.j0 k a0 t241 (t248 != t241) t236 t237 t240 t243 t244 t247) = some r:=by rw [if_pos rfl] at H;exact H
    clear H
    have H:=H1
    clear H1
    have H':=Aside0.mk H
    clear H
    have hnb17:=NB249_242.out
    have hnc17:=NB242_249.out
    have hcz18_0 : w11.cell? ⟨gb249,0,none⟩ = some (.int .i64 0):=(blk_cell BK249.out 0).trans rfl
    have hcz18_1 : w11.cell? ⟨gb249,1,none⟩ = some (.slice none 0 0):=(blk_cell BK249.out 1).trans rfl
    have hcz18_2 : w11.cell? ⟨gb249,2,none⟩ = some (.int .i64 0):=(blk_cell BK249.out 2).trans rfl
    have hfz18_0:=blk_frozen BK249.out 0
    have hfz18_1:=blk_frozen BK249.out 1
    have hfz18_2:=blk_frozen BK249.out 2
    have hcz19_0 : w11.cell? ⟨gb242,0,none⟩ = some (.int .i64 t236):=(blk_cell BK242.out 0).trans rfl
    have hcz19_1 : w11.cell? ⟨gb242,1,none⟩ = some (.slice Ao9 t237.length co9):=(blk_cell BK242.out 1).trans rfl
    have hcz19_2 : w11.cell? ⟨gb242,2,none⟩ = some (.int .i64 t240):=(blk_cell BK242.out 2).trans rfl
    have hfz19_0:=blk_frozen BK242.out 0
    have hfz19_1:=blk_frozen BK242.out 1
    have hfz19_2:=blk_frozen BK242.out 2
    go_wp2_with (((with_reducible refine gate_callee (f:=6) rfl ?_);refine goesL_ (some 26) rfl rfl Tryd.func6 (by kernel_rfl) rfl #[.agg #[.int .i64 t243, .slice Ao14 t244.length co14, .int .i64 t247], .agg #[.int .i64 t236, .slice Ao9 t237.length co9, .int .i64 t240]] rfl (by (try simp only [List.map_toArray,List.map_cons,List.map_nil]);rfl) ?_;(with_reducible refine (laws_eqCharge.calls k t243 _ _ t244 t247 t236 _ _ t237 t240 true _ ?side1 ?side2 ?side3 ?side4 A15.out).mono ?_);(case side1 => refine (Kd.R_reads' (e:=35) (base:=w.heap.size) (ok:=fun k_ => (True ∧ some k_ ≠ (.slice Ao9 t237.length co9 : Value).ownBlock)) (n:=t244.length) (c:=co14) ?_).2.2;exact (by exact (Kd.R_mono (Kd.R_far (p:=⟨gb249,2,none⟩) (Kd.R_far (p:=⟨gb249,1,none⟩) (Kd.R_far (p:=⟨gb249,0,none⟩) (Kd.R_types HO246.out BK249.out (by decide)) (fun _ hk => hk.2) (.int .i64 t243)) (fun _ hk => hk.2) (.slice Ao14 t244.length co14)) (fun _ hk => hk.2) (.int .i64 t247)) (fun _ h_ => h_.1))));(case side2 => exact (Kd.R_reads' HO246.out).2.1);(case side3 => refine (Kd.R_reads' (e:=35) (base:=w.heap.size) (ok:=fun k_ => (True ∧ some k_ ≠ (.slice Ao14 t244.length co14 : Value).ownBlock)) (n:=t237.length) (c:=co9) ?_).2.2;exact (by exact (Kd.R_mono (Kd.R_far (p:=⟨gb249,2,none⟩) (Kd.R_far (p:=⟨gb249,1,none⟩) (Kd.R_far (p:=⟨gb249,0,none⟩) (Kd.R_types HO239.out BK249.out (by decide)) (fun _ hk => hk.2) (.int .i64 t243)) (fun _ hk => hk.2) (.slice Ao14 t244.length co14)) (fun _ hk => hk.2) (.int .i64 t247)) (fun _ h_ => h_.1))));(case side4 => exact (Kd.R_reads' HO239.out).2.1);rintro e w20 ⟨rfl,hb⟩;refine ⟨_,rfl, ?_⟩;have n0_:=Aside0.mk (Kd.R_below (by exact (Kd.R_mono (Kd.R_far (p:=⟨gb249,2,none⟩) (Kd.R_far (p:=⟨gb249,1,none⟩) (Kd.R_far (p:=⟨gb249,0,none⟩) (Kd.R_types HO239.out BK249.out (by decide)) (fun _ hk => hk.2) (.int .i64 t243)) (fun _ hk => hk.2) (.slice Ao14 t244.length co14)) (fun _ hk => hk.2) (.int .i64 t247)) (fun _ h_ => h_.1))) hb);have n1_:=Aside0.mk (Kd.R_below (by exact (Kd.R_mono (Kd.R_far (p:=⟨gb249,2,none⟩) (Kd.R_far (p:=⟨gb249,1,none⟩) (Kd.R_far (p:=⟨gb249,0,none⟩) (Kd.R_types HO246.out BK249.out (by decide)) (fun _ hk => hk.2) (.int .i64 t243)) (fun _ hk => hk.2) (.slice Ao14 t244.length co14)) (fun _ hk => hk.2) (.int .i64 t247)) (fun _ h_ => h_.1))) hb);have n2_:=Aside0.mk (blk_below (g:=gb242) (o := .cells #[.int .i64 t236, .slice Ao9 t237.length co9, .int .i64 t240] 24 (0,0)) (by refine blk_far ?_ NB242_249.out _;refine blk_far ?_ NB242_249.out _;refine blk_far ?_ NB242_249.out _;exact BK242.out) hb);have n3_:=Aside0.mk (blk_below (g:=gb249) (o := .cells #[.int .i64 t243, .slice Ao14 t244.length co14, .int .i64 t247] 24 (0,0)) (by refine blk_put (cs:=#[.int .i64 t243, .slice Ao14 t244.length co14, .int .i64 0]) ?_ 2 _ rfl;refine blk_put (cs:=#[.int .i64 t243, .slice none 0 0, .int .i64 0]) ?_ 1 _ rfl;refine blk_put (cs:=#[.int .i64 0, .slice none 0 0, .int .i64 0]) ?_ 0 _ rfl;exact BK249.out) hb);have n4_:=Aside0.mk (below_step (by repeat ((with_reducible first | exact HB.out | refine below_set ?_ GE249.out))) hb);clear HO239;clear HO246;clear BK242;clear BK249;clear HB;have HO239:=n0_;have HO246:=n1_;have BK242:=n2_;have BK249:=n3_;have HB:=n4_;clear n0_ n1_ n2_ n3_ n4_;(try clear hb)))
    go_meet
    case rel => exact ⟨_,((t248 != t241)),(by rfl),H',⟨by omega⟩,⟨by exact Kd.R_mono HO239.out (fun _ hk => hk.2)⟩,⟨by exact Kd.R_mono HO246.out (fun _ hk => hk.2)⟩,⟨by exact BK242.out⟩,⟨by exact BK249.out⟩,⟨by exact HB.out⟩⟩
   ·replace c16:=Bool.eq_false_iff.mpr c16
    subst c16
    have H1 : (laws_FnExactParseCharge.j0 k a0 t241 true t236 t237 t240 t243 t244 t247) = some r:=by rw [if_neg (show ¬ (false = true) by decide)] at H;exact H
    clear H
    have H:=H1
    clear H1
    have H':=Aside0.mk H
    clear H
    have hnb21:=NB249_242.out
    have hnc21:=NB242_249.out
    have hcz22_0 : w11.cell? ⟨gb249,0,none⟩ = some (.int .i64 0):=(blk_cell BK249.out 0).trans rfl
    have hcz22_1 : w11.cell? ⟨gb249,1,none⟩ = some (.slice none 0 0):=(blk_cell BK249.out 1).trans rfl
    have hcz22_2 : w11.cell? ⟨gb249,2,none⟩ = some (.int .i64 0):=(blk_cell BK249.out 2).trans rfl
    have hfz22_0:=blk_frozen BK249.out 0
    have hfz22_1:=blk_frozen BK249.out 1
    have hfz22_2:=blk_frozen BK249.out 2
    have hcz23_0 : w11.cell? ⟨gb242,0,none⟩ = some (.int .i64 t236):=(blk_cell BK242.out 0).trans rfl
    have hcz23_1 : w11.cell? ⟨gb242,1,none⟩ = some (.slice Ao9 t237.length co9):=(blk_cell BK242.out 1).trans rfl
    have hcz23_2 : w11.cell? ⟨gb242,2,none⟩ = some (.int .i64 t240):=(blk_cell BK242.out 2).trans rfl
    have hfz23_0:=blk_frozen BK242.out 0
    have hfz23_1:=blk_frozen BK242.out 1
    have hfz23_2:=blk_frozen BK242.out 2
    go_wp2_with (((with_reducible refine gate_callee (f:=6) rfl ?_);refine goesL_ (some 26) rfl rfl Tryd.func6 (by kernel_rfl) rfl #[.agg #[.int .i64 t243, .slice Ao14 t244.length co14, .int .i64 t247], .agg #[.int .i64 t236, .slice Ao9 t237.length co9, .int .i64 t240]] rfl (by (try simp only [List.map_toArray,List.map_cons,List.map_nil]);rfl) ?_;(with_reducible refine (laws_eqCharge.calls k t243 _ _ t244 t247 t236 _ _ t237 t240 false _ ?side1 ?side2 ?side3 ?side4 A15.out).mono ?_);(case side1 => refine (Kd.R_reads' (e:=35) (base:=w.heap.size) (ok:=fun k_ => (True ∧ some k_ ≠ (.slice Ao9 t237.length co9 : Value).ownBlock)) (n:=t244.length) (c:=co14) ?_).2.2;exact (by exact (Kd.R_mono (Kd.R_far (p:=⟨gb249,2,none⟩) (Kd.R_far (p:=⟨gb249,1,none⟩) (Kd.R_far (p:=⟨gb249,0,none⟩) (Kd.R_types HO246.out BK249.out (by decide)) (fun _ hk => hk.2) (.int .i64 t243)) (fun _ hk => hk.2) (.slice Ao14 t244.length co14)) (fun _ hk => hk.2) (.int .i64 t247)) (fun _ h_ => h_.1))));(case side2 => exact (Kd.R_reads' HO246.out).2.1);(case side3 => refine (Kd.R_reads' (e:=35) (base:=w.heap.size) (ok:=fun k_ => (True ∧ some k_ ≠ (.slice Ao14 t244.length co14 : Value).ownBlock)) (n:=t237.length) (c:=co9) ?_).2.2;exact (by exact (Kd.R_mono (Kd.R_far (p:=⟨gb249,2,none⟩) (Kd.R_far (p:=⟨gb249,1,none⟩) (Kd.R_far (p:=⟨gb249,0,none⟩) (Kd.R_types HO239.out BK249.out (by decide)) (fun _ hk => hk.2) (.int .i64 t243)) (fun _ hk => hk.2) (.slice Ao14 t244.length co14)) (fun _ hk => hk.2) (.int .i64 t247)) (fun _ h_ => h_.1))));(case side4 => exact (Kd.R_reads' HO239.out).2.1);rintro e w24 ⟨rfl,hb⟩;refine ⟨_,rfl, ?_⟩;have n0_:=Aside0.mk (Kd.R_below (by exact (Kd.R_mono (Kd.R_far (p:=⟨gb249,2,none⟩) (Kd.R_far (p:=⟨gb249,1,none⟩) (Kd.R_far (p:=⟨gb249,0,none⟩) (Kd.R_types HO239.out BK249.out (by decide)) (fun _ hk => hk.2) (.int .i64 t243)) (fun _ hk => hk.2) (.slice Ao14 t244.length co14)) (fun _ hk => hk.2) (.int .i64 t247)) (fun _ h_ => h_.1))) hb);have n1_:=Aside0.mk (Kd.R_below (by exact (Kd.R_mono (Kd.R_far (p:=⟨gb249,2,none⟩) (Kd.R_far (p:=⟨gb249,1,none⟩) (Kd.R_far (p:=⟨gb249,0,none⟩) (Kd.R_types HO246.out BK249.out (by decide)) (fun _ hk => hk.2) (.int .i64 t243)) (fun _ hk => hk.2) (.slice Ao14 t244.length co14)) (fun _ hk => hk.2) (.int .i64 t247)) (fun _ h_ => h_.1))) hb);have n2_:=Aside0.mk (blk_below (g:=gb242) (o := .cells #[.int .i64 t236, .slice Ao9 t237.length co9, .int .i64 t240] 24 (0,0)) (by refine blk_far ?_ NB242_249.out _;refine blk_far ?_ NB242_249.out _;refine blk_far ?_ NB242_249.out _;exact BK242.out) hb);have n3_:=Aside0.mk (blk_below (g:=gb249) (o := .cells #[.int .i64 t243, .slice Ao14 t244.length co14, .int .i64 t247] 24 (0,0)) (by refine blk_put (cs:=#[.int .i64 t243, .slice Ao14 t244.length co14, .int .i64 0]) ?_ 2 _ rfl;refine blk_put (cs:=#[.int .i64 t243, .slice none 0 0, .int .i64 0]) ?_ 1 _ rfl;refine blk_put (cs:=#[.int .i64 0, .slice none 0 0, .int .i64 0]) ?_ 0 _ rfl;exact BK249.out) hb);have n4_:=Aside0.mk (below_step (by repeat ((with_reducible first | exact HB.out | refine below_set ?_ GE249.out))) hb);clear HO239;clear HO246;clear BK242;clear BK249;clear HB;have HO239:=n0_;have HO246:=n1_;have BK242:=n2_;have BK249:=n3_;have HB:=n4_;clear n0_ n1_ n2_ n3_ n4_;(try clear hb)))
    go_meet
    case rel => exact ⟨_,(true),(by rfl),H',⟨by omega⟩,⟨by exact Kd.R_mono HO239.out (fun _ hk => hk.2)⟩,⟨by exact Kd.R_mono HO246.out (fun _ hk => hk.2)⟩,⟨by exact BK242.out⟩,⟨by exact BK249.out⟩,⟨by exact HB.out⟩⟩
  case rest =>
   clear HC5
   try clear c1
   try clear c2
   try clear c2b0
   try clear c2b1
   try clear p2
   try clear c3
   try clear c4
   try clear c5
   try clear c6
   try clear c12
   try clear c16
   try clear c17
   try clear c21
   try clear hcz13_0
   try clear hcz13_1
   try clear hcz13_2
   try clear hcz18_0
   try clear hcz18_1
   try clear hcz18_2
   try clear hcz19_0
   try clear hcz19_1
   try clear hcz19_2
   try clear hcz22_0
   try clear hcz22_1
   try clear hcz22_2
   try clear hcz23_0
   try clear hcz23_1
   try clear hcz23_2
   try clear hcz8_0
   try clear hcz8_1
   try clear hcz8_2
   try clear hfz13_0
   try clear hfz13_1
   try clear hfz13_2
   try clear hfz18_0
   try clear hfz18_1
   try clear hfz18_2
   try clear hfz19_0
   try clear hfz19_1
   try clear hfz19_2
   try clear hfz22_0
   try clear hfz22_1
   try clear hfz22_2
   try clear hfz23_0
   try clear hfz23_1
   try clear hfz23_2
   try clear hfz8_0
   try clear hfz8_1
   try clear hfz8_2
   obtain ⟨kq,x32_4,rfl,HA,HJ4,HO_243001,HO_250001,BK242,BK249,HB⟩ := hcut
   cases kq with
   | zero => exact absurd HA.out (by simp [laws_FnExactParseCharge.j0])
   | succ kj4 =>
    have H:=HA.out
    clear HA
    simp only [laws_FnExactParseCharge.j0] at H
    by_cases c25 : x32_4 = true
    ·subst c25
     have H1 : (some false) = some r:=by rw [if_pos rfl] at H;exact H
     clear H
     have H:=H1
     clear H1
     obtain rfl:=Option.some.inj H
     go_wp2
     go_ret
     exact ⟨by rfl,by exact HB.out⟩
    ·replace c25:=Bool.eq_false_iff.mpr c25
     subst c25
     have H1 : ((laws_markCharge.f kj4 t243 t244 t247 1).bind fun bt251 => ((laws_heldCharge.f kj4 t243 bt251.2 t247 1).bind fun t253 => (if t253 < 0 then (some false) else (if t253 = bt251.1 then ((impl_ParseCharge.f kj4 a0).bind fun bt254 => ((laws_eqCharge.f kj4 bt254.1 bt254.2.1 bt254.2.2.1 t236 t237 t240).bind fun t261 => (if t261 = true then (laws_FnExactParseCharge.j1 kj4 bt251.1 (bt254.2.2.2 != t241) t243 bt251.2 t247) else (laws_FnExactParseCharge.j1 kj4 bt251.1 true t243 bt251.2 t247)))) else (some false))))) = some r:=by rw [if_neg (show ¬ (false = true) by decide)] at H;exact H
     clear H
     have H:=H1
     clear H1
     replace H:=Option.bind_eq_some_iff.mp H
     obtain ⟨⟨t251,t252⟩,A260,H⟩ := H
     replace H : ((laws_heldCharge.f kj4 t243 t252 t247 1).bind fun t253 => (if t253 < 0 then (some false) else (if t253 = t251 then ((impl_ParseCharge.f kj4 a0).bind fun bt254 => ((laws_eqCharge.f kj4 bt254.1 bt254.2.1 bt254.2.2.1 t236 t237 t240).bind fun t261 => (if t261 = true then (laws_FnExactParseCharge.j1 kj4 t251 (bt254.2.2.2 != t241) t243 t252 t247) else (laws_FnExactParseCharge.j1 kj4 t251 true t243 t252 t247)))) else (some false)))) = some r:=H
     have A26:=Aside0.mk A260
     clear A260
     replace H:=Option.bind_eq_some_iff.mp H
     obtain ⟨t253,A270,H⟩ := H
     replace H : (if t253 < 0 then (some false) else (if t253 = t251 then ((impl_ParseCharge.f kj4 a0).bind fun bt254 => ((laws_eqCharge.f kj4 bt254.1 bt254.2.1 bt254.2.2.1 t236 t237 t240).bind fun t261 => (if t261 = true then (laws_FnExactParseCharge.j1 kj4 t251 (bt254.2.2.2 != t241) t243 t252 t247) else (laws_FnExactParseCharge.j1 kj4 t251 true t243 t252 t247)))) else (some false))) = some r:=H
     have A27:=Aside0.mk A270
     clear A270
     by_cases c28 : t253 < 0
     ·rw [if_pos c28] at H
      have c28b0 : decide (t253 < 0) = true:=decide_eq_true c28
      clear c28
      obtain rfl:=Option.some.inj H
      have hnb29:=NB249_242.out
      have hnc29:=NB242_249.out
      have hcz30_0 : wc.cell? ⟨gb249,0,none⟩ = some (.int .i64 t243):=(blk_cell BK249.out 0).trans rfl
      have hcz30_1 : wc.cell? ⟨gb249,1,none⟩ = some (.slice Ao14 t244.length co14):=(blk_cell BK249.out 1).trans rfl
      have hcz30_2 : wc.cell? ⟨gb249,2,none⟩ = some (.int .i64 t247):=(blk_cell BK249.out 2).trans rfl
      have hfz30_0:=blk_frozen BK249.out 0
      have hfz30_1:=blk_frozen BK249.out 1
      have hfz30_2:=blk_frozen BK249.out 2
      go_wp2_with (first | ((with_reducible refine gate_callee (f:=7) rfl ?_);refine goesL_ (some 35) rfl rfl Tryd.func7 (by kernel_rfl) rfl #[.agg #[.int .i64 t243, .slice Ao14 t244.length co14, .int .i64 t247], .int .i64 1] rfl (by (try simp only [List.map_toArray,List.map_cons,List.map_nil]);rfl) ?_;(with_reducible refine (laws_markCharge.calls kj4 t243 (fun k_ => some k_ = (.slice Ao14 t244.length co14 : Value).ownBlock) (.slice Ao14 t244.length co14) t244 t247 1 t251 t252 w _ ?side1 ?side2 A26.out).mono ?_);(case side1 => exact HB.out);(case side2 => exact Kd.R_tight rfl HO_250001.out);rintro e w31 ⟨rfl,hy0,hb,hkp⟩;refine ⟨_,rfl, ?_⟩;have n0_:=Aside0.mk (Kd.R_mono (ok':=fun k_ => some k_ ≠ (.slice Ao14 t244.length co14 : Value).ownBlock) (Kd.R_keptB (HO_243001.out) hkp (fun k_ hk_ hs_ => (hk_) hs_)) (fun k_ hk_ => hk_.1));have n1_:=Aside0.mk (Kd.R_reok rfl hy0 (fun k_ e_ => HO_250001.out.1 k_ e_));have n2_:=Aside0.mk (blk_kept (by exact BK242.out) hkp (fun hs_ => (fun e_ => (Kd.R_ne HO_250001.out BK242.out (by decide)) e_) hs_));have n3_:=Aside0.mk (blk_kept (by exact BK249.out) hkp (fun hs_ => (fun e_ => (Kd.R_ne HO_250001.out BK249.out (by decide)) e_) hs_));have n4_:=Aside0.mk (hb);clear HO_243001;clear HO_250001;clear BK242;clear BK249;clear HB;have HO_243001:=n0_;have HO_250001:=n1_;have BK242:=n2_;have BK249:=n3_;have HB:=n4_;clear n0_ n1_ n2_ n3_ n4_;(try clear hb);(try clear hkp);(try clear hy0);have hcz32_0 : w31.cell? ⟨gb249,0,none⟩ = some (.int .i64 t243):=(blk_cell BK249.out 0).trans rfl;have hcz32_1 : w31.cell? ⟨gb249,1,none⟩ = some (.slice Ao14 t244.length co14):=(blk_cell BK249.out 1).trans rfl;have hcz32_2 : w31.cell? ⟨gb249,2,none⟩ = some (.int .i64 t247):=(blk_cell BK249.out 2).trans rfl;have hfz32_0:=blk_frozen BK249.out 0;have hfz32_1:=blk_frozen BK249.out 1;have hfz32_2:=blk_frozen BK249.out 2) | ((with_reducible refine gate_callee (f:=8) rfl ?_);refine goesL_ (some 38) rfl rfl Tryd.func8 (by kernel_rfl) rfl #[.agg #[.int .i64 t243, .slice Ao14 t252.length co14, .int .i64 t247], .int .i64 1] rfl (by (try simp only [List.map_toArray,List.map_cons,List.map_nil]);(rw [show t252.length = t244.length from (Kd.R_reads' HO_250001.out).1.symm] <;> rfl)) ?_;(with_reducible refine (laws_heldCharge.calls kj4 t243 _ _ t252 t247 1 t253 _ ?side1 ?side2 A27.out).mono ?_);(case side1 => repeat (exact (Kd.R_reads' HO_250001.out).2.2));(case side2 => rw [show t252.length = t244.length from (Kd.R_reads' HO_250001.out).1.symm];exact (Kd.R_reads' HO_250001.out).2.1);rintro e w33 ⟨rfl,hb⟩;refine ⟨_,rfl, ?_⟩;have n0_:=Aside0.mk (Kd.R_below (by exact HO_243001.out) hb);have n1_:=Aside0.mk (Kd.R_below (by exact HO_250001.out) hb);have n2_:=Aside0.mk (blk_below (g:=gb242) (o := .cells #[.int .i64 t236, .slice Ao9 t237.length co9, .int .i64 t240] 24 (0,0)) (by exact BK242.out) hb);have n3_:=Aside0.mk (blk_below (g:=gb249) (o := .cells #[.int .i64 t243, .slice Ao14 t244.length co14, .int .i64 t247] 24 (0,0)) (by exact BK249.out) hb);have n4_:=Aside0.mk (below_step (by exact HB.out) hb);clear HO_243001;clear HO_250001;clear BK242;clear BK249;clear HB;have HO_243001:=n0_;have HO_250001:=n1_;have BK242:=n2_;have BK249:=n3_;have HB:=n4_;clear n0_ n1_ n2_ n3_ n4_;(try clear hb)))
      go_ret
      exact ⟨by rfl,by exact HB.out⟩
     ·rw [if_neg c28] at H
      have c28b0 : decide (t253 < 0) = false:=decide_eq_false c28
      clear c28
      by_cases c34 : t253 = t251
      ·rw [if_pos c34] at H
       have c34b0 : (t253 == t251) = true:=beq_iff_eq.mpr c34
       have c34b1 : (t253 != t251) = false:=bne_eq_false_iff_eq.mpr c34
       clear c34
       replace H:=Option.bind_eq_some_iff.mp H
       obtain ⟨⟨t254,t255,t258,t259⟩,A350,H⟩ := H
       replace H : ((laws_eqCharge.f kj4 t254 t255 t258 t236 t237 t240).bind fun t261 => (if t261 = true then (laws_FnExactParseCharge.j1 kj4 t251 (t259 != t241) t243 t252 t247) else (laws_FnExactParseCharge.j1 kj4 t251 true t243 t252 t247))) = some r:=H
       have A35:=Aside0.mk A350
       clear A350
       have HC36:=Aside0.mk H
       clear H
       have hnb37:=NB249_242.out
       have hnc37:=NB242_249.out
       have hcz38_0 : wc.cell? ⟨gb249,0,none⟩ = some (.int .i64 t243):=(blk_cell BK249.out 0).trans rfl
       have hcz38_1 : wc.cell? ⟨gb249,1,none⟩ = some (.slice Ao14 t244.length co14):=(blk_cell BK249.out 1).trans rfl
       have hcz38_2 : wc.cell? ⟨gb249,2,none⟩ = some (.int .i64 t247):=(blk_cell BK249.out 2).trans rfl
       have hfz38_0:=blk_frozen BK249.out 0
       have hfz38_1:=blk_frozen BK249.out 1
       have hfz38_2:=blk_frozen BK249.out 2
       go_upto_region 16 with (first | ((with_reducible refine gate_callee (f:=7) rfl ?_);refine goesL_ (some 35) rfl rfl Tryd.func7 (by kernel_rfl) rfl #[.agg #[.int .i64 t243, .slice Ao14 t244.length co14, .int .i64 t247], .int .i64 1] rfl (by (try simp only [List.map_toArray,List.map_cons,List.map_nil]);rfl) ?_;(with_reducible refine (laws_markCharge.calls kj4 t243 (fun k_ => some k_ = (.slice Ao14 t244.length co14 : Value).ownBlock) (.slice Ao14 t244.length co14) t244 t247 1 t251 t252 w _ ?side1 ?side2 A26.out).mono ?_);(case side1 => exact HB.out);(case side2 => exact Kd.R_tight rfl HO_250001.out);rintro e w39 ⟨rfl,hy0,hb,hkp⟩;refine ⟨_,rfl, ?_⟩;have n0_:=Aside0.mk (Kd.R_mono (ok':=fun k_ => some k_ ≠ (.slice Ao14 t244.length co14 : Value).ownBlock) (Kd.R_keptB (HO_243001.out) hkp (fun k_ hk_ hs_ => (hk_) hs_)) (fun k_ hk_ => hk_.1));have n1_:=Aside0.mk (Kd.R_reok rfl hy0 (fun k_ e_ => HO_250001.out.1 k_ e_));have n2_:=Aside0.mk (blk_kept (by exact BK242.out) hkp (fun hs_ => (fun e_ => (Kd.R_ne HO_250001.out BK242.out (by decide)) e_) hs_));have n3_:=Aside0.mk (blk_kept (by exact BK249.out) hkp (fun hs_ => (fun e_ => (Kd.R_ne HO_250001.out BK249.out (by decide)) e_) hs_));have n4_:=Aside0.mk (hb);clear HO_243001;clear HO_250001;clear BK242;clear BK249;clear HB;have HO_243001:=n0_;have HO_250001:=n1_;have BK242:=n2_;have BK249:=n3_;have HB:=n4_;clear n0_ n1_ n2_ n3_ n4_;(try clear hb);(try clear hkp);(try clear hy0);have hcz40_0 : w39.cell? ⟨gb249,0,none⟩ = some (.int .i64 t243):=(blk_cell BK249.out 0).trans rfl;have hcz40_1 : w39.cell? ⟨gb249,1,none⟩ = some (.slice Ao14 t244.length co14):=(blk_cell BK249.out 1).trans rfl;have hcz40_2 : w39.cell? ⟨gb249,2,none⟩ = some (.int .i64 t247):=(blk_cell BK249.out 2).trans rfl;have hfz40_0:=blk_frozen BK249.out 0;have hfz40_1:=blk_frozen BK249.out 1;have hfz40_2:=blk_frozen BK249.out 2) | ((with_reducible refine gate_callee (f:=8) rfl ?_);refine goesL_ (some 38) rfl rfl Tryd.func8 (by kernel_rfl) rfl #[.agg #[.int .i64 t243, .slice Ao14 t252.length co14, .int .i64 t247], .int .i64 1] rfl (by (try simp only [List.map_toArray,List.map_cons,List.map_nil]);(rw [show t252.length = t244.length from (Kd.R_reads' HO_250001.out).1.symm] <;> rfl)) ?_;(with_reducible refine (laws_heldCharge.calls kj4 t243 _ _ t252 t247 1 t253 _ ?side1 ?side2 A27.out).mono ?_);(case side1 => repeat (exact (Kd.R_reads' HO_250001.out).2.2));(case side2 => rw [show t252.length = t244.length from (Kd.R_reads' HO_250001.out).1.symm];exact (Kd.R_reads' HO_250001.out).2.1);rintro e w41 ⟨rfl,hb⟩;refine ⟨_,rfl, ?_⟩;have n0_:=Aside0.mk (Kd.R_below (by exact HO_243001.out) hb);have n1_:=Aside0.mk (Kd.R_below (by exact HO_250001.out) hb);have n2_:=Aside0.mk (blk_below (g:=gb242) (o := .cells #[.int .i64 t236, .slice Ao9 t237.length co9, .int .i64 t240] 24 (0,0)) (by exact BK242.out) hb);have n3_:=Aside0.mk (blk_below (g:=gb249) (o := .cells #[.int .i64 t243, .slice Ao14 t244.length co14, .int .i64 t247] 24 (0,0)) (by exact BK249.out) hb);have n4_:=Aside0.mk (below_step (by exact HB.out) hb);clear HO_243001;clear HO_250001;clear BK242;clear BK249;clear HB;have HO_243001:=n0_;have HO_250001:=n1_;have BK242:=n2_;have BK249:=n3_;have HB:=n4_;clear n0_ n1_ n2_ n3_ n4_;(try clear hb)) | ((with_reducible refine gate_callee (f:=5) rfl ?_);refine goesL_ (some 46) rfl rfl Tryd.func5 (by kernel_rfl) rfl #[.string a0] rfl (by (try simp only [List.map_toArray,List.map_cons,List.map_nil]);rfl) ?_;(with_reducible refine (impl_ParseCharge.calls (hT:=?sgT) kj4 a0 t254 t255 t258 t259 _ A35.out).mono ?_);(case sgT => exact Go.Proofs.YthogpinmmddicaaDoorW.Met.Met.below hT (by exact HB.out));rintro e w42 ⟨v256,rfl,ho0,hb⟩;refine ⟨_,rfl, ?_⟩;have n0_:=Aside0.mk (Kd.R_elder' (by exact HO_243001.out) (Kd.R_base ho0) hb);have n1_:=Aside0.mk (Kd.R_elder' (by exact HO_250001.out) (Kd.R_base ho0) hb);have n2_:=Aside0.mk (Kd.R_lower (Kd.R_new' (Kd.R_new' ho0 (Kd.R_lt (by exact HO_243001.out))) (Kd.R_lt (by exact HO_250001.out))) (below_size (by exact HB.out)));have n3_:=Aside0.mk (blk_below (g:=gb242) (o := .cells #[.int .i64 t236, .slice Ao9 t237.length co9, .int .i64 t240] 24 (0,0)) (by exact BK242.out) hb);have n4_:=Aside0.mk (blk_below (g:=gb249) (o := .cells #[.int .i64 t243, .slice Ao14 t244.length co14, .int .i64 t247] 24 (0,0)) (by exact BK249.out) hb);have n5_:=Aside0.mk (below_step (by exact HB.out) hb);clear HO_243001;clear HO_250001;clear BK242;clear BK249;clear HB;have HO_243001:=n0_;have HO_250001:=n1_;have HO257:=n2_;have BK242:=n3_;have BK249:=n4_;have HB:=n5_;clear n0_ n1_ n2_ n3_ n4_ n5_;(try clear hb);(try clear ho0)) | ((with_reducible refine gate_dst (N:=9) rfl ?_);refine box_event ?hg (N:=9) ?hd (cs:=#[.int .i64 0, .slice none 0 0, .int .i64 0]) (t:=24) ?hr ?_;(case hd => rfl);(case hg => rfl);(case hr => (go_simp;done));intro gb260 hg w43 hbox hb;have n0_:=Aside0.mk (Kd.R_below (by exact HO_243001.out) hb);have n1_:=Aside0.mk (Kd.R_below (by exact HO_250001.out) hb);have n2_:=Aside0.mk (Kd.R_below (by exact HO257.out) hb);have n3_:=Aside0.mk (blk_below (g:=gb242) (o := .cells #[.int .i64 t236, .slice Ao9 t237.length co9, .int .i64 t240] 24 (0,0)) (by exact BK242.out) hb);have n4_:=Aside0.mk (blk_below (g:=gb249) (o := .cells #[.int .i64 t243, .slice Ao14 t244.length co14, .int .i64 t247] 24 (0,0)) (by exact BK249.out) hb);have n5_:=Aside0.mk (below_step (by exact HB.out) hb);have n6_:=Aside0.mk (hbox);have n7_:=Aside0.mk ((by rw [hg];exact (below_size (by exact HB.out)) : w.heap.size ≤ gb260));have n8_:=Aside0.mk ((by rw [hg];exact (below_size (by exact HB.out)) : w.heap.size ≤ gb260));have n9_:=Aside0.mk ((by rw [hg];exact Nat.ne_of_lt (blk_lt (g:=gb242) (o := .cells #[.int .i64 t236, .slice Ao9 t237.length co9, .int .i64 t240] 24 (0,0)) (by exact BK242.out)) : gb242 ≠ gb260));have n10_:=Aside0.mk ((by rw [hg];exact Nat.ne_of_gt (blk_lt (g:=gb242) (o := .cells #[.int .i64 t236, .slice Ao9 t237.length co9, .int .i64 t240] 24 (0,0)) (by exact BK242.out)) : gb260 ≠ gb242));have n11_:=Aside0.mk ((by rw [hg];exact Nat.ne_of_lt (blk_lt (g:=gb249) (o := .cells #[.int .i64 t243, .slice Ao14 t244.length co14, .int .i64 t247] 24 (0,0)) (by exact BK249.out)) : gb249 ≠ gb260));have n12_:=Aside0.mk ((by rw [hg];exact Nat.ne_of_gt (blk_lt (g:=gb249) (o := .cells #[.int .i64 t243, .slice Ao14 t244.length co14, .int .i64 t247] 24 (0,0)) (by exact BK249.out)) : gb260 ≠ gb249));clear HO_243001;clear HO_250001;clear HO257;clear BK242;clear BK249;clear HB;have HO_243001:=n0_;have HO_250001:=n1_;have HO257:=n2_;have BK242:=n3_;have BK249:=n4_;have HB:=n5_;have BK260:=n6_;have GW260:=n7_;have GE260:=n8_;have NB242_260:=n9_;have NB260_242:=n10_;have NB249_260:=n11_;have NB260_249:=n12_;clear n0_ n1_ n2_ n3_ n4_ n5_ n6_ n7_ n8_ n9_ n10_ n11_ n12_;clear hb hbox hg;have hnb44:=NB260_242.out;have hnc44:=NB242_260.out;have hnb45:=NB260_249.out;have hnc45:=NB249_260.out;have hcz46_0 : w43.cell? ⟨gb260,0,none⟩ = some (.int .i64 0):=(blk_cell BK260.out 0).trans rfl;have hcz46_1 : w43.cell? ⟨gb260,1,none⟩ = some (.slice none 0 0):=(blk_cell BK260.out 1).trans rfl;have hcz46_2 : w43.cell? ⟨gb260,2,none⟩ = some (.int .i64 0):=(blk_cell BK260.out 2).trans rfl;have hfz46_0:=blk_frozen BK260.out 0;have hfz46_1:=blk_frozen BK260.out 1;have hfz46_2:=blk_frozen BK260.out 2;obtain ⟨Ao47,co47,eo47⟩ := Kd.R_slice HO257.out;subst eo47))
       (skip)
       go_cut [57] (fun v57 wc => ∃ (kq : Nat) (x57_35 : Bool),v57 = .bool x57_35 ∧ Aside0 (laws_FnExactParseCharge.j1 kq t251 x57_35 t243 t252 t247 = some r) ∧ Aside0 (kq ≤ kj4) ∧ Aside0 (Kd.R k35 35 wc w.heap.size (fun k_ => some k_ ≠ ((.slice Ao14 t244.length co14) : Value).ownBlock ∧ some k_ ≠ ((.slice Ao47 t255.length co47) : Value).ownBlock) (.slice Ao9 t237.length co9) t237) ∧ Aside0 (Kd.R k35 35 wc w.heap.size (fun k_ => some k_ ≠ ((.slice Ao9 t237.length co9) : Value).ownBlock ∧ some k_ ≠ ((.slice Ao47 t255.length co47) : Value).ownBlock) (.slice Ao14 t244.length co14) t252) ∧ Aside0 (Kd.R k35 35 wc w.heap.size (fun k_ => some k_ ≠ ((.slice Ao9 t237.length co9) : Value).ownBlock ∧ some k_ ≠ ((.slice Ao14 t244.length co14) : Value).ownBlock) (.slice Ao47 t255.length co47) t255) ∧ Aside0 (wc.heap[gb242]? = some (.cells #[.int .i64 t236,(.slice Ao9 t237.length co9), .int .i64 t240] 24 (0,0))) ∧ Aside0 (wc.heap[gb249]? = some (.cells #[.int .i64 t243,(.slice Ao14 t244.length co14), .int .i64 t247] 24 (0,0))) ∧ Aside0 (wc.heap[gb260]? = some (.cells #[.int .i64 t254,(.slice Ao47 t255.length co47), .int .i64 t258] 24 (0,0))) ∧ Aside0 (Below w.heap.size w wc))
       case first =>
        have H:=HC36.out
        clear HC36
        replace H:=Option.bind_eq_some_iff.mp H
        obtain ⟨t261,A480,H⟩ := H
        replace H : (if t261 = true then (laws_FnExactParseCharge.j1 kj4 t251 (t259 != t241) t243 t252 t247) else (laws_FnExactParseCharge.j1 kj4 t251 true t243 t252 t247)) = some r:=H
        have A48:=Aside0.mk A480
        clear A480
        by_cases c49 : t261 = true
        ·subst c49
         have H1 : (laws_FnExactParseCharge.j1 kj4 t251 (t259 != t241) t243 t252 t247) = some r:=by rw [if_pos rfl] at H;exact H
         clear H
         have H:=H1
         clear H1
         have H':=Aside0.mk H
         clear H
         have hnb50:=NB260_242.out
         have hnc50:=NB242_260.out
         have hnb51:=NB260_249.out
         have hnc51:=NB249_260.out
         have hcz52_0 : w43.cell? ⟨gb260,0,none⟩ = some (.int .i64 0):=(blk_cell BK260.out 0).trans rfl
         have hcz52_1 : w43.cell? ⟨gb260,1,none⟩ = some (.slice none 0 0):=(blk_cell BK260.out 1).trans rfl
         have hcz52_2 : w43.cell? ⟨gb260,2,none⟩ = some (.int .i64 0):=(blk_cell BK260.out 2).trans rfl
         have hfz52_0:=blk_frozen BK260.out 0
         have hfz52_1:=blk_frozen BK260.out 1
         have hfz52_2:=blk_frozen BK260.out 2
         have hnb53:=NB242_249.out
         have hnc53:=NB249_242.out
         have hcz54_0 : w43.cell? ⟨gb242,0,none⟩ = some (.int .i64 t236):=(blk_cell BK242.out 0).trans rfl
         have hcz54_1 : w43.cell? ⟨gb242,1,none⟩ = some (.slice Ao9 t237.length co9):=(blk_cell BK242.out 1).trans rfl
         have hcz54_2 : w43.cell? ⟨gb242,2,none⟩ = some (.int .i64 t240):=(blk_cell BK242.out 2).trans rfl
         have hfz54_0:=blk_frozen BK242.out 0
         have hfz54_1:=blk_frozen BK242.out 1
         have hfz54_2:=blk_frozen BK242.out 2
         go_wp2_with (((with_reducible refine gate_callee (f:=6) rfl ?_);refine goesL_ (some 51) rfl rfl Tryd.func6 (by kernel_rfl) rfl #[.agg #[.int .i64 t254, .slice Ao47 t255.length co47, .int .i64 t258], .agg #[.int .i64 t236, .slice Ao9 t237.length co9, .int .i64 t240]] rfl (by (try simp only [List.map_toArray,List.map_cons,List.map_nil]);rfl) ?_;(with_reducible refine (laws_eqCharge.calls kj4 t254 _ _ t255 t258 t236 _ _ t237 t240 true _ ?side1 ?side2 ?side3 ?side4 A48.out).mono ?_);(case side1 => refine (Kd.R_reads' (e:=35) (base:=w.heap.size) (ok:=fun k_ => ((True ∧ some k_ ≠ (.slice Ao9 t237.length co9 : Value).ownBlock) ∧ some k_ ≠ (.slice Ao14 t244.length co14 : Value).ownBlock)) (n:=t255.length) (c:=co47) ?_).2.2;exact (by exact (Kd.R_mono (Kd.R_far (p:=⟨gb260,2,none⟩) (Kd.R_far (p:=⟨gb260,1,none⟩) (Kd.R_far (p:=⟨gb260,0,none⟩) (Kd.R_types HO257.out BK260.out (by decide)) (fun _ hk => hk.2) (.int .i64 t254)) (fun _ hk => hk.2) (.slice Ao47 t255.length co47)) (fun _ hk => hk.2) (.int .i64 t258)) (fun _ h_ => h_.1))));(case side2 => exact (Kd.R_reads' HO257.out).2.1);(case side3 => refine (Kd.R_reads' (e:=35) (base:=w.heap.size) (ok:=fun k_ => (some k_ ≠ (.slice Ao14 t244.length co14 : Value).ownBlock ∧ some k_ ≠ (.slice Ao47 t255.length co47 : Value).ownBlock)) (n:=t237.length) (c:=co9) ?_).2.2;exact (by exact (Kd.R_mono (Kd.R_far (p:=⟨gb260,2,none⟩) (Kd.R_far (p:=⟨gb260,1,none⟩) (Kd.R_far (p:=⟨gb260,0,none⟩) (Kd.R_types HO_243001.out BK260.out (by decide)) (fun _ hk => hk.2) (.int .i64 t254)) (fun _ hk => hk.2) (.slice Ao47 t255.length co47)) (fun _ hk => hk.2) (.int .i64 t258)) (fun _ h_ => h_.1))));(case side4 => exact (Kd.R_reads' HO_243001.out).2.1);rintro e w55 ⟨rfl,hb⟩;refine ⟨_,rfl, ?_⟩;have n0_:=Aside0.mk (Kd.R_below (by exact (Kd.R_mono (Kd.R_far (p:=⟨gb260,2,none⟩) (Kd.R_far (p:=⟨gb260,1,none⟩) (Kd.R_far (p:=⟨gb260,0,none⟩) (Kd.R_types HO_243001.out BK260.out (by decide)) (fun _ hk => hk.2) (.int .i64 t254)) (fun _ hk => hk.2) (.slice Ao47 t255.length co47)) (fun _ hk => hk.2) (.int .i64 t258)) (fun _ h_ => h_.1))) hb);have n1_:=Aside0.mk (Kd.R_below (by exact (Kd.R_mono (Kd.R_far (p:=⟨gb260,2,none⟩) (Kd.R_far (p:=⟨gb260,1,none⟩) (Kd.R_far (p:=⟨gb260,0,none⟩) (Kd.R_types HO_250001.out BK260.out (by decide)) (fun _ hk => hk.2) (.int .i64 t254)) (fun _ hk => hk.2) (.slice Ao47 t255.length co47)) (fun _ hk => hk.2) (.int .i64 t258)) (fun _ h_ => h_.1))) hb);have n2_:=Aside0.mk (Kd.R_below (by exact (Kd.R_mono (Kd.R_far (p:=⟨gb260,2,none⟩) (Kd.R_far (p:=⟨gb260,1,none⟩) (Kd.R_far (p:=⟨gb260,0,none⟩) (Kd.R_types HO257.out BK260.out (by decide)) (fun _ hk => hk.2) (.int .i64 t254)) (fun _ hk => hk.2) (.slice Ao47 t255.length co47)) (fun _ hk => hk.2) (.int .i64 t258)) (fun _ h_ => h_.1))) hb);have n3_:=Aside0.mk (blk_below (g:=gb242) (o := .cells #[.int .i64 t236, .slice Ao9 t237.length co9, .int .i64 t240] 24 (0,0)) (by refine blk_far ?_ NB242_260.out _;refine blk_far ?_ NB242_260.out _;refine blk_far ?_ NB242_260.out _;exact BK242.out) hb);have n4_:=Aside0.mk (blk_below (g:=gb249) (o := .cells #[.int .i64 t243, .slice Ao14 t244.length co14, .int .i64 t247] 24 (0,0)) (by refine blk_far ?_ NB249_260.out _;refine blk_far ?_ NB249_260.out _;refine blk_far ?_ NB249_260.out _;exact BK249.out) hb);have n5_:=Aside0.mk (blk_below (g:=gb260) (o := .cells #[.int .i64 t254, .slice Ao47 t255.length co47, .int .i64 t258] 24 (0,0)) (by refine blk_put (cs:=#[.int .i64 t254, .slice Ao47 t255.length co47, .int .i64 0]) ?_ 2 _ rfl;refine blk_put (cs:=#[.int .i64 t254, .slice none 0 0, .int .i64 0]) ?_ 1 _ rfl;refine blk_put (cs:=#[.int .i64 0, .slice none 0 0, .int .i64 0]) ?_ 0 _ rfl;exact BK260.out) hb);have n6_:=Aside0.mk (below_step (by repeat ((with_reducible first | exact HB.out | refine below_set ?_ GE260.out))) hb);clear HO_243001;clear HO_250001;clear HO257;clear BK242;clear BK249;clear BK260;clear HB;have HO_243001:=n0_;have HO_250001:=n1_;have HO257:=n2_;have BK242:=n3_;have BK249:=n4_;have BK260:=n5_;have HB:=n6_;clear n0_ n1_ n2_ n3_ n4_ n5_ n6_;(try clear hb)))
         go_meet
         case rel => exact ⟨_,((t259 != t241)),(by rfl),H',⟨by have:=HJ4.out;omega⟩,⟨by exact HO_243001.out⟩,⟨by exact HO_250001.out⟩,⟨by exact Kd.R_mono HO257.out (fun _ hk => ⟨hk.1.2,hk.2⟩)⟩,⟨by exact BK242.out⟩,⟨by exact BK249.out⟩,⟨by exact BK260.out⟩,⟨by exact HB.out⟩⟩
        ·replace c49:=Bool.eq_false_iff.mpr c49
         subst c49
         have H1 : (laws_FnExactParseCharge.j1 kj4 t251 true t243 t252 t247) = some r:=by rw [if_neg (show ¬ (false = true) by decide)] at H;exact H
         clear H
         have H:=H1
         clear H1
         have H':=Aside0.mk H
         clear H
         have hnb56:=NB260_242.out
         have hnc56:=NB242_260.out
         have hnb57:=NB260_249.out
         have hnc57:=NB249_260.out
         have hcz58_0 : w43.cell? ⟨gb260,0,none⟩ = some (.int .i64 0):=(blk_cell BK260.out 0).trans rfl
         have hcz58_1 : w43.cell? ⟨gb260,1,none⟩ = some (.slice none 0 0):=(blk_cell BK260.out 1).trans rfl
         have hcz58_2 : w43.cell? ⟨gb260,2,none⟩ = some (.int .i64 0):=(blk_cell BK260.out 2).trans rfl
         have hfz58_0:=blk_frozen BK260.out 0
         have hfz58_1:=blk_frozen BK260.out 1
         have hfz58_2:=blk_frozen BK260.out 2
         have hnb59:=NB242_249.out
         have hnc59:=NB249_242.out
         have hcz60_0 : w43.cell? ⟨gb242,0,none⟩ = some (.int .i64 t236):=(blk_cell BK242.out 0).trans rfl
         have hcz60_1 : w43.cell? ⟨gb242,1,none⟩ = some (.slice Ao9 t237.length co9):=(blk_cell BK242.out 1).trans rfl
         have hcz60_2 : w43.cell? ⟨gb242,2,none⟩ = some (.int .i64 t240):=(blk_cell BK242.out 2).trans rfl
         have hfz60_0:=blk_frozen BK242.out 0
         have hfz60_1:=blk_frozen BK242.out 1
         have hfz60_2:=blk_frozen BK242.out 2
         go_wp2_with (((with_reducible refine gate_callee (f:=6) rfl ?_);refine goesL_ (some 51) rfl rfl Tryd.func6 (by kernel_rfl) rfl #[.agg #[.int .i64 t254, .slice Ao47 t255.length co47, .int .i64 t258], .agg #[.int .i64 t236, .slice Ao9 t237.length co9, .int .i64 t240]] rfl (by (try simp only [List.map_toArray,List.map_cons,List.map_nil]);rfl) ?_;(with_reducible refine (laws_eqCharge.calls kj4 t254 _ _ t255 t258 t236 _ _ t237 t240 false _ ?side1 ?side2 ?side3 ?side4 A48.out).mono ?_);(case side1 => refine (Kd.R_reads' (e:=35) (base:=w.heap.size) (ok:=fun k_ => ((True ∧ some k_ ≠ (.slice Ao9 t237.length co9 : Value).ownBlock) ∧ some k_ ≠ (.slice Ao14 t244.length co14 : Value).ownBlock)) (n:=t255.length) (c:=co47) ?_).2.2;exact (by exact (Kd.R_mono (Kd.R_far (p:=⟨gb260,2,none⟩) (Kd.R_far (p:=⟨gb260,1,none⟩) (Kd.R_far (p:=⟨gb260,0,none⟩) (Kd.R_types HO257.out BK260.out (by decide)) (fun _ hk => hk.2) (.int .i64 t254)) (fun _ hk => hk.2) (.slice Ao47 t255.length co47)) (fun _ hk => hk.2) (.int .i64 t258)) (fun _ h_ => h_.1))));(case side2 => exact (Kd.R_reads' HO257.out).2.1);(case side3 => refine (Kd.R_reads' (e:=35) (base:=w.heap.size) (ok:=fun k_ => (some k_ ≠ (.slice Ao14 t244.length co14 : Value).ownBlock ∧ some k_ ≠ (.slice Ao47 t255.length co47 : Value).ownBlock)) (n:=t237.length) (c:=co9) ?_).2.2;exact (by exact (Kd.R_mono (Kd.R_far (p:=⟨gb260,2,none⟩) (Kd.R_far (p:=⟨gb260,1,none⟩) (Kd.R_far (p:=⟨gb260,0,none⟩) (Kd.R_types HO_243001.out BK260.out (by decide)) (fun _ hk => hk.2) (.int .i64 t254)) (fun _ hk => hk.2) (.slice Ao47 t255.length co47)) (fun _ hk => hk.2) (.int .i64 t258)) (fun _ h_ => h_.1))));(case side4 => exact (Kd.R_reads' HO_243001.out).2.1);rintro e w61 ⟨rfl,hb⟩;refine ⟨_,rfl, ?_⟩;have n0_:=Aside0.mk (Kd.R_below (by exact (Kd.R_mono (Kd.R_far (p:=⟨gb260,2,none⟩) (Kd.R_far (p:=⟨gb260,1,none⟩) (Kd.R_far (p:=⟨gb260,0,none⟩) (Kd.R_types HO_243001.out BK260.out (by decide)) (fun _ hk => hk.2) (.int .i64 t254)) (fun _ hk => hk.2) (.slice Ao47 t255.length co47)) (fun _ hk => hk.2) (.int .i64 t258)) (fun _ h_ => h_.1))) hb);have n1_:=Aside0.mk (Kd.R_below (by exact (Kd.R_mono (Kd.R_far (p:=⟨gb260,2,none⟩) (Kd.R_far (p:=⟨gb260,1,none⟩) (Kd.R_far (p:=⟨gb260,0,none⟩) (Kd.R_types HO_250001.out BK260.out (by decide)) (fun _ hk => hk.2) (.int .i64 t254)) (fun _ hk => hk.2) (.slice Ao47 t255.length co47)) (fun _ hk => hk.2) (.int .i64 t258)) (fun _ h_ => h_.1))) hb);have n2_:=Aside0.mk (Kd.R_below (by exact (Kd.R_mono (Kd.R_far (p:=⟨gb260,2,none⟩) (Kd.R_far (p:=⟨gb260,1,none⟩) (Kd.R_far (p:=⟨gb260,0,none⟩) (Kd.R_types HO257.out BK260.out (by decide)) (fun _ hk => hk.2) (.int .i64 t254)) (fun _ hk => hk.2) (.slice Ao47 t255.length co47)) (fun _ hk => hk.2) (.int .i64 t258)) (fun _ h_ => h_.1))) hb);have n3_:=Aside0.mk (blk_below (g:=gb242) (o := .cells #[.int .i64 t236, .slice Ao9 t237.length co9, .int .i64 t240] 24 (0,0)) (by refine blk_far ?_ NB242_260.out _;refine blk_far ?_ NB242_260.out _;refine blk_far ?_ NB242_260.out _;exact BK242.out) hb);have n4_:=Aside0.mk (blk_below (g:=gb249) (o := .cells #[.int .i64 t243, .slice Ao14 t244.length co14, .int .i64 t247] 24 (0,0)) (by refine blk_far ?_ NB249_260.out _;refine blk_far ?_ NB249_260.out _;refine blk_far ?_ NB249_260.out _;exact BK249.out) hb);have n5_:=Aside0.mk (blk_below (g:=gb260) (o := .cells #[.int .i64 t254, .slice Ao47 t255.length co47, .int .i64 t258] 24 (0,0)) (by refine blk_put (cs:=#[.int .i64 t254, .slice Ao47 t255.length co47, .int .i64 0]) ?_ 2 _ rfl;refine blk_put (cs:=#[.int .i64 t254, .slice none 0 0, .int .i64 0]) ?_ 1 _ rfl;refine blk_put (cs:=#[.int .i64 0, .slice none 0 0, .int .i64 0]) ?_ 0 _ rfl;exact BK260.out) hb);have n6_:=Aside0.mk (below_step (by repeat ((with_reducible first | exact HB.out | refine below_set ?_ GE260.out))) hb);clear HO_243001;clear HO_250001;clear HO257;clear BK242;clear BK249;clear BK260;clear HB;have HO_243001:=n0_;have HO_250001:=n1_;have HO257:=n2_;have BK242:=n3_;have BK249:=n4_;have BK260:=n5_;have HB:=n6_;clear n0_ n1_ n2_ n3_ n4_ n5_ n6_;(try clear hb)))
         go_meet
         case rel => exact ⟨_,(true),(by rfl),H',⟨by have:=HJ4.out;omega⟩,⟨by exact HO_243001.out⟩,⟨by exact HO_250001.out⟩,⟨by exact Kd.R_mono HO257.out (fun _ hk => ⟨hk.1.2,hk.2⟩)⟩,⟨by exact BK242.out⟩,⟨by exact BK249.out⟩,⟨by exact BK260.out⟩,⟨by exact HB.out⟩⟩
       case rest =>
        clear HC36
        try clear c1
        try clear c2
        try clear c2b0
        try clear c2b1
        try clear p2
        try clear c3
        try clear c4
        try clear c5
        try clear c6
        try clear c7
        try clear c8
        try clear c12
        try clear c16
        try clear c17
        try clear c21
        try clear c25
        try clear c28
        try clear c28b0
        try clear c29
        try clear c34
        try clear c34b0
        try clear c34b1
        try clear c37
        try clear c44
        try clear c45
        try clear c49
        try clear c50
        try clear c51
        try clear c53
        try clear c56
        try clear c57
        try clear c59
        try clear hcz13_0
        try clear hcz13_1
        try clear hcz13_2
        try clear hcz18_0
        try clear hcz18_1
        try clear hcz18_2
        try clear hcz19_0
        try clear hcz19_1
        try clear hcz19_2
        try clear hcz22_0
        try clear hcz22_1
        try clear hcz22_2
        try clear hcz23_0
        try clear hcz23_1
        try clear hcz23_2
        try clear hcz30_0
        try clear hcz30_1
        try clear hcz30_2
        try clear hcz32_0
        try clear hcz32_1
        try clear hcz32_2
        try clear hcz38_0
        try clear hcz38_1
        try clear hcz38_2
        try clear hcz40_0
        try clear hcz40_1
        try clear hcz40_2
        try clear hcz46_0
        try clear hcz46_1
        try clear hcz46_2
        try clear hcz52_0
        try clear hcz52_1
        try clear hcz52_2
        try clear hcz54_0
        try clear hcz54_1
        try clear hcz54_2
        try clear hcz58_0
        try clear hcz58_1
        try clear hcz58_2
        try clear hcz60_0
        try clear hcz60_1
        try clear hcz60_2
        try clear hcz8_0
        try clear hcz8_1
        try clear hcz8_2
        try clear hfz13_0
        try clear hfz13_1
        try clear hfz13_2
        try clear hfz18_0
        try clear hfz18_1
        try clear hfz18_2
        try clear hfz19_0
        try clear hfz19_1
        try clear hfz19_2
        try clear hfz22_0
        try clear hfz22_1
        try clear hfz22_2
        try clear hfz23_0
        try clear hfz23_1
        try clear hfz23_2
        try clear hfz30_0
        try clear hfz30_1
        try clear hfz30_2
        try clear hfz32_0
        try clear hfz32_1
        try clear hfz32_2
        try clear hfz38_0
        try clear hfz38_1
        try clear hfz38_2
        try clear hfz40_0
        try clear hfz40_1
        try clear hfz40_2
        try clear hfz46_0
        try clear hfz46_1
        try clear hfz46_2
        try clear hfz52_0
        try clear hfz52_1
        try clear hfz52_2
        try clear hfz54_0
        try clear hfz54_1
        try clear hfz54_2
        try clear hfz58_0
        try clear hfz58_1
        try clear hfz58_2
        try clear hfz60_0
        try clear hfz60_1
        try clear hfz60_2
        try clear hfz8_0
        try clear hfz8_1
        try clear hfz8_2
        try clear p2
        obtain ⟨kq,x57_35,rfl,HA,HJ35,HO_243001,HO_250001,HO_261001,BK242,BK249,BK260,HB⟩ := hcut
        have hl250001_35:=(Kd.R_reads' HO_250001.out).1
        rw [hl250001_35] at HO_250001
        (skip)
        (skip)
        (try simp only [hl250001_35] at BK249)
        (skip)
        (try simp only [hl250001_35] at HO_243001)
        (try simp only [hl250001_35] at HO_261001)
        cases kq with
        | zero => exact absurd HA.out (by simp [laws_FnExactParseCharge.j1])
        | succ kj35 =>
         have H:=HA.out
         clear HA
         simp only [laws_FnExactParseCharge.j1] at H
         by_cases c62 : x57_35 = true
         ·subst c62
          have H1 : (some false) = some r:=by rw [if_pos rfl] at H;exact H
          clear H
          have H:=H1
          clear H1
          obtain rfl:=Option.some.inj H
          go_wp2
          go_ret
          exact ⟨by rfl,by exact HB.out⟩
         ·replace c62:=Bool.eq_false_iff.mpr c62
          subst c62
          have H1 : ((laws_heldCharge.f kj35 t243 t252 t247 1).bind fun t262 => (if t262 < 0 then (some false) else (if t262 = t251 then (some true) else (some false)))) = some r:=by rw [if_neg (show ¬ (false = true) by decide)] at H;exact H
          clear H
          have H:=H1
          clear H1
          replace H:=Option.bind_eq_some_iff.mp H
          obtain ⟨t262,A630,H⟩ := H
          replace H : (if t262 < 0 then (some false) else (if t262 = t251 then (some true) else (some false))) = some r:=H
          have A63:=Aside0.mk A630
          clear A630
          by_cases c64 : t262 < 0
          ·rw [if_pos c64] at H
           have c64b0 : decide (t262 < 0) = true:=decide_eq_true c64
           clear c64
           obtain rfl:=Option.some.inj H
           have hnb65:=NB249_242.out
           have hnc65:=NB242_249.out
           have hnb66:=NB249_260.out
           have hnc66:=NB260_249.out
           have hcz67_0 : wc.cell? ⟨gb249,0,none⟩ = some (.int .i64 t243):=(blk_cell BK249.out 0).trans rfl
           have hcz67_1 : wc.cell? ⟨gb249,1,none⟩ = some (.slice Ao14 t252.length co14):=(blk_cell BK249.out 1).trans rfl
           have hcz67_2 : wc.cell? ⟨gb249,2,none⟩ = some (.int .i64 t247):=(blk_cell BK249.out 2).trans rfl
           have hfz67_0:=blk_frozen BK249.out 0
           have hfz67_1:=blk_frozen BK249.out 1
           have hfz67_2:=blk_frozen BK249.out 2
           go_wp2_with (((with_reducible refine gate_callee (f:=8) rfl ?_);refine goesL_ (some 60) rfl rfl Tryd.func8 (by kernel_rfl) rfl #[.agg #[.int .i64 t243, .slice Ao14 t252.length co14, .int .i64 t247], .int .i64 1] rfl (by (try simp only [List.map_toArray,List.map_cons,List.map_nil]);rfl) ?_;(with_reducible refine (laws_heldCharge.calls kj35 t243 _ _ t252 t247 1 t262 _ ?side1 ?side2 A63.out).mono ?_);(case side1 => repeat (exact (Kd.R_reads' HO_250001.out).2.2));(case side2 => exact (Kd.R_reads' HO_250001.out).2.1);rintro e w68 ⟨rfl,hb⟩;refine ⟨_,rfl, ?_⟩;have n0_:=Aside0.mk (Kd.R_below (by exact HO_243001.out) hb);have n1_:=Aside0.mk (Kd.R_below (by exact HO_250001.out) hb);have n2_:=Aside0.mk (Kd.R_below (by exact HO_261001.out) hb);have n3_:=Aside0.mk (blk_below (g:=gb242) (o := .cells #[.int .i64 t236, .slice Ao9 t237.length co9, .int .i64 t240] 24 (0,0)) (by exact BK242.out) hb);have n4_:=Aside0.mk (blk_below (g:=gb249) (o := .cells #[.int .i64 t243, .slice Ao14 t252.length co14, .int .i64 t247] 24 (0,0)) (by exact BK249.out) hb);have n5_:=Aside0.mk (blk_below (g:=gb260) (o := .cells #[.int .i64 t254, .slice Ao47 t255.length co47, .int .i64 t258] 24 (0,0)) (by exact BK260.out) hb);have n6_:=Aside0.mk (below_step (by exact HB.out) hb);clear HO_243001;clear HO_250001;clear HO_261001;clear BK242;clear BK249;clear BK260;clear HB;have HO_243001:=n0_;have HO_250001:=n1_;have HO_261001:=n2_;have BK242:=n3_;have BK249:=n4_;have BK260:=n5_;have HB:=n6_;clear n0_ n1_ n2_ n3_ n4_ n5_ n6_;(try clear hb)))
           go_ret
           exact ⟨by rfl,by exact HB.out⟩
          ·rw [if_neg c64] at H
           have c64b0 : decide (t262 < 0) = false:=decide_eq_false c64
           clear c64
           by_cases c69 : t262 = t251
           ·rw [if_pos c69] at H
            have c69b0 : (t262 == t251) = true:=beq_iff_eq.mpr c69
            have c69b1 : (t262 != t251) = false:=bne_eq_false_iff_eq.mpr c69
            clear c69
            obtain rfl:=Option.some.inj H
            have hnb70:=NB249_242.out
            have hnc70:=NB242_249.out
            have hnb71:=NB249_260.out
            have hnc71:=NB260_249.out
            have hcz72_0 : wc.cell? ⟨gb249,0,none⟩ = some (.int .i64 t243):=(blk_cell BK249.out 0).trans rfl
            have hcz72_1 : wc.cell? ⟨gb249,1,none⟩ = some (.slice Ao14 t252.length co14):=(blk_cell BK249.out 1).trans rfl
            have hcz72_2 : wc.cell? ⟨gb249,2,none⟩ = some (.int .i64 t247):=(blk_cell BK249.out 2).trans rfl
            have hfz72_0:=blk_frozen BK249.out 0
            have hfz72_1:=blk_frozen BK249.out 1
            have hfz72_2:=blk_frozen BK249.out 2
            go_wp2_with (((with_reducible refine gate_callee (f:=8) rfl ?_);refine goesL_ (some 60) rfl rfl Tryd.func8 (by kernel_rfl) rfl #[.agg #[.int .i64 t243, .slice Ao14 t252.length co14, .int .i64 t247], .int .i64 1] rfl (by (try simp only [List.map_toArray,List.map_cons,List.map_nil]);rfl) ?_;(with_reducible refine (laws_heldCharge.calls kj35 t243 _ _ t252 t247 1 t262 _ ?side1 ?side2 A63.out).mono ?_);(case side1 => repeat (exact (Kd.R_reads' HO_250001.out).2.2));(case side2 => exact (Kd.R_reads' HO_250001.out).2.1);rintro e w73 ⟨rfl,hb⟩;refine ⟨_,rfl, ?_⟩;have n0_:=Aside0.mk (Kd.R_below (by exact HO_243001.out) hb);have n1_:=Aside0.mk (Kd.R_below (by exact HO_250001.out) hb);have n2_:=Aside0.mk (Kd.R_below (by exact HO_261001.out) hb);have n3_:=Aside0.mk (blk_below (g:=gb242) (o := .cells #[.int .i64 t236, .slice Ao9 t237.length co9, .int .i64 t240] 24 (0,0)) (by exact BK242.out) hb);have n4_:=Aside0.mk (blk_below (g:=gb249) (o := .cells #[.int .i64 t243, .slice Ao14 t252.length co14, .int .i64 t247] 24 (0,0)) (by exact BK249.out) hb);have n5_:=Aside0.mk (blk_below (g:=gb260) (o := .cells #[.int .i64 t254, .slice Ao47 t255.length co47, .int .i64 t258] 24 (0,0)) (by exact BK260.out) hb);have n6_:=Aside0.mk (below_step (by exact HB.out) hb);clear HO_243001;clear HO_250001;clear HO_261001;clear BK242;clear BK249;clear BK260;clear HB;have HO_243001:=n0_;have HO_250001:=n1_;have HO_261001:=n2_;have BK242:=n3_;have BK249:=n4_;have BK260:=n5_;have HB:=n6_;clear n0_ n1_ n2_ n3_ n4_ n5_ n6_;(try clear hb)))
            go_ret
            exact ⟨by rfl,by exact HB.out⟩
           ·rw [if_neg c69] at H
            have c69b0 : (t262 == t251) = false:=beq_eq_false_iff_ne.mpr c69
            have c69b1 : (t262 != t251) = true:=bne_iff_ne.mpr c69
            obtain rfl:=Option.some.inj H
            have hnb74:=NB249_242.out
            have hnc74:=NB242_249.out
            have hnb75:=NB249_260.out
            have hnc75:=NB260_249.out
            have hcz76_0 : wc.cell? ⟨gb249,0,none⟩ = some (.int .i64 t243):=(blk_cell BK249.out 0).trans rfl
            have hcz76_1 : wc.cell? ⟨gb249,1,none⟩ = some (.slice Ao14 t252.length co14):=(blk_cell BK249.out 1).trans rfl
            have hcz76_2 : wc.cell? ⟨gb249,2,none⟩ = some (.int .i64 t247):=(blk_cell BK249.out 2).trans rfl
            have hfz76_0:=blk_frozen BK249.out 0
            have hfz76_1:=blk_frozen BK249.out 1
            have hfz76_2:=blk_frozen BK249.out 2
            go_wp2_with (((with_reducible refine gate_callee (f:=8) rfl ?_);refine goesL_ (some 60) rfl rfl Tryd.func8 (by kernel_rfl) rfl #[.agg #[.int .i64 t243, .slice Ao14 t252.length co14, .int .i64 t247], .int .i64 1] rfl (by (try simp only [List.map_toArray,List.map_cons,List.map_nil]);rfl) ?_;(with_reducible refine (laws_heldCharge.calls kj35 t243 _ _ t252 t247 1 t262 _ ?side1 ?side2 A63.out).mono ?_);(case side1 => repeat (exact (Kd.R_reads' HO_250001.out).2.2));(case side2 => exact (Kd.R_reads' HO_250001.out).2.1);rintro e w77 ⟨rfl,hb⟩;refine ⟨_,rfl, ?_⟩;have n0_:=Aside0.mk (Kd.R_below (by exact HO_243001.out) hb);have n1_:=Aside0.mk (Kd.R_below (by exact HO_250001.out) hb);have n2_:=Aside0.mk (Kd.R_below (by exact HO_261001.out) hb);have n3_:=Aside0.mk (blk_below (g:=gb242) (o := .cells #[.int .i64 t236, .slice Ao9 t237.length co9, .int .i64 t240] 24 (0,0)) (by exact BK242.out) hb);have n4_:=Aside0.mk (blk_below (g:=gb249) (o := .cells #[.int .i64 t243, .slice Ao14 t252.length co14, .int .i64 t247] 24 (0,0)) (by exact BK249.out) hb);have n5_:=Aside0.mk (blk_below (g:=gb260) (o := .cells #[.int .i64 t254, .slice Ao47 t255.length co47, .int .i64 t258] 24 (0,0)) (by exact BK260.out) hb);have n6_:=Aside0.mk (below_step (by exact HB.out) hb);clear HO_243001;clear HO_250001;clear HO_261001;clear BK242;clear BK249;clear BK260;clear HB;have HO_243001:=n0_;have HO_250001:=n1_;have HO_261001:=n2_;have BK242:=n3_;have BK249:=n4_;have BK260:=n5_;have HB:=n6_;clear n0_ n1_ n2_ n3_ n4_ n5_ n6_;(try clear hb)))
            go_ret
            exact ⟨by rfl,by exact HB.out⟩
      ·rw [if_neg c34] at H
       have c34b0 : (t253 == t251) = false:=beq_eq_false_iff_ne.mpr c34
       have c34b1 : (t253 != t251) = true:=bne_iff_ne.mpr c34
       obtain rfl:=Option.some.inj H
       have hnb78:=NB249_242.out
       have hnc78:=NB242_249.out
       have hcz79_0 : wc.cell? ⟨gb249,0,none⟩ = some (.int .i64 t243):=(blk_cell BK249.out 0).trans rfl
       have hcz79_1 : wc.cell? ⟨gb249,1,none⟩ = some (.slice Ao14 t244.length co14):=(blk_cell BK249.out 1).trans rfl
       have hcz79_2 : wc.cell? ⟨gb249,2,none⟩ = some (.int .i64 t247):=(blk_cell BK249.out 2).trans rfl
       have hfz79_0:=blk_frozen BK249.out 0
       have hfz79_1:=blk_frozen BK249.out 1
       have hfz79_2:=blk_frozen BK249.out 2
       go_wp2_with (first | ((with_reducible refine gate_callee (f:=7) rfl ?_);refine goesL_ (some 35) rfl rfl Tryd.func7 (by kernel_rfl) rfl #[.agg #[.int .i64 t243, .slice Ao14 t244.length co14, .int .i64 t247], .int .i64 1] rfl (by (try simp only [List.map_toArray,List.map_cons,List.map_nil]);rfl) ?_;(with_reducible refine (laws_markCharge.calls kj4 t243 (fun k_ => some k_ = (.slice Ao14 t244.length co14 : Value).ownBlock) (.slice Ao14 t244.length co14) t244 t247 1 t251 t252 w _ ?side1 ?side2 A26.out).mono ?_);(case side1 => exact HB.out);(case side2 => exact Kd.R_tight rfl HO_250001.out);rintro e w80 ⟨rfl,hy0,hb,hkp⟩;refine ⟨_,rfl, ?_⟩;have n0_:=Aside0.mk (Kd.R_mono (ok':=fun k_ => some k_ ≠ (.slice Ao14 t244.length co14 : Value).ownBlock) (Kd.R_keptB (HO_243001.out) hkp (fun k_ hk_ hs_ => (hk_) hs_)) (fun k_ hk_ => hk_.1));have n1_:=Aside0.mk (Kd.R_reok rfl hy0 (fun k_ e_ => HO_250001.out.1 k_ e_));have n2_:=Aside0.mk (blk_kept (by exact BK242.out) hkp (fun hs_ => (fun e_ => (Kd.R_ne HO_250001.out BK242.out (by decide)) e_) hs_));have n3_:=Aside0.mk (blk_kept (by exact BK249.out) hkp (fun hs_ => (fun e_ => (Kd.R_ne HO_250001.out BK249.out (by decide)) e_) hs_));have n4_:=Aside0.mk (hb);clear HO_243001;clear HO_250001;clear BK242;clear BK249;clear HB;have HO_243001:=n0_;have HO_250001:=n1_;have BK242:=n2_;have BK249:=n3_;have HB:=n4_;clear n0_ n1_ n2_ n3_ n4_;(try clear hb);(try clear hkp);(try clear hy0);have hcz81_0 : w80.cell? ⟨gb249,0,none⟩ = some (.int .i64 t243):=(blk_cell BK249.out 0).trans rfl;have hcz81_1 : w80.cell? ⟨gb249,1,none⟩ = some (.slice Ao14 t244.length co14):=(blk_cell BK249.out 1).trans rfl;have hcz81_2 : w80.cell? ⟨gb249,2,none⟩ = some (.int .i64 t247):=(blk_cell BK249.out 2).trans rfl;have hfz81_0:=blk_frozen BK249.out 0;have hfz81_1:=blk_frozen BK249.out 1;have hfz81_2:=blk_frozen BK249.out 2) | ((with_reducible refine gate_callee (f:=8) rfl ?_);refine goesL_ (some 38) rfl rfl Tryd.func8 (by kernel_rfl) rfl #[.agg #[.int .i64 t243, .slice Ao14 t252.length co14, .int .i64 t247], .int .i64 1] rfl (by (try simp only [List.map_toArray,List.map_cons,List.map_nil]);(rw [show t252.length = t244.length from (Kd.R_reads' HO_250001.out).1.symm] <;> rfl)) ?_;(with_reducible refine (laws_heldCharge.calls kj4 t243 _ _ t252 t247 1 t253 _ ?side1 ?side2 A27.out).mono ?_);(case side1 => repeat (exact (Kd.R_reads' HO_250001.out).2.2));(case side2 => rw [show t252.length = t244.length from (Kd.R_reads' HO_250001.out).1.symm];exact (Kd.R_reads' HO_250001.out).2.1);rintro e w82 ⟨rfl,hb⟩;refine ⟨_,rfl, ?_⟩;have n0_:=Aside0.mk (Kd.R_below (by exact HO_243001.out) hb);have n1_:=Aside0.mk (Kd.R_below (by exact HO_250001.out) hb);have n2_:=Aside0.mk (blk_below (g:=gb242) (o := .cells #[.int .i64 t236, .slice Ao9 t237.length co9, .int .i64 t240] 24 (0,0)) (by exact BK242.out) hb);have n3_:=Aside0.mk (blk_below (g:=gb249) (o := .cells #[.int .i64 t243, .slice Ao14 t244.length co14, .int .i64 t247] 24 (0,0)) (by exact BK249.out) hb);have n4_:=Aside0.mk (below_step (by exact HB.out) hb);clear HO_243001;clear HO_250001;clear BK242;clear BK249;clear HB;have HO_243001:=n0_;have HO_250001:=n1_;have BK242:=n2_;have BK249:=n3_;have HB:=n4_;clear n0_ n1_ n2_ n3_ n4_;(try clear hb)))
       go_ret
       exact ⟨by rfl,by exact HB.out⟩

end Go.Proofs.YthogpinmmddicaaDoor.PFnExactParseCharge
