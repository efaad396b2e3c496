-- Written by a program of this session, over the kit's print (wip/xprint.py)
import Derived.Test.YtempmebpbbbkmaaPFnWagonsx0
import Derived.Test.YtempmebpbbbkmaaPFnWagonsx1
import Derived.Test.YtempmebpbbbkmaaPFnWagonsx2
namespace Go.Proofs.Ytempmebpbbbkmaa.PFnWagons
open Go.RowKit Go.Proofs.YtempmebpbbbkmaaW.PrintWords Go.Proofs.YtempmebpbbbkmaaW.PrintLast Go.Proofs.YtempmebpbbbkmaaW.PrintMore
attribute [local go_sem] max2_int min2_int max_two min_two max_three min_three max_four min_four   -- for this text's walks alone
set_option linter.unusedVariables false
set_option linter.unusedSimpArgs false

/-! ### spec_l1Cur_anyContainer: function 36 -/
theorem IsS46.grownA {w0 W W0 : World} {g : Nat} {f0 : List Int} {f1 f2 : Int} {W1 : World} {row : Option Nat} (h0 : IsS46 w0 W0 g f0 f1 f2) (h : IsS46 w0 W g f0 f1 f2) (hw : W.grownBy W1 row) (hne : some g ≠ row) : IsS46 w0 W1 g f0 f1 f2:=IsS46.grown h hw hne
def spec_l1Cur_anyContainer.f (k : Nat) (s0_0 : List Int) (s0_1 : Int) (s0_2 : Int) : Option (ByteArray × Int × Int × Int × Int × Int × Int):=(spec_l1Cur_container.f k s0_0 s0_1 s0_2).bind fun bt233 => ((spec_l1Cur_pick.f s0_0 bt233.2.2.2.2.2.1 bt233.2.2.2.2.2.2 24).bind fun bt241 => (if bt241.1 = 0 then ((spec_l1Cur_anyId.f k s0_0 bt241.2.1 bt241.2.2).bind fun bt244 => (some (bt244.1,bt233.2.1,bt233.2.2.1,bt233.2.2.2.1,bt233.2.2.2.2.1,bt244.2.1,bt244.2.2))) else (if bt241.1 = 1 then ((spec_l1Cur_among.f s0_0 bt241.2.1 bt241.2.2 (([0,3,2] : List Int))).bind fun bt250 => (some (bt233.1,bt250.1,bt233.2.2.1,bt233.2.2.2.1,bt233.2.2.2.2.1,bt250.2.1,bt250.2.2))) else (if bt241.1 = 2 then ((spec_l1Cur_among.f s0_0 bt241.2.1 bt241.2.2 (([0,32001,32000,1] : List Int))).bind fun bt256 => (some (bt233.1,bt233.2.1,bt256.1,bt233.2.2.2.1,bt233.2.2.2.2.1,bt256.2.1,bt256.2.2))) else (if bt241.1 = 3 then ((spec_l1Cur_among.f s0_0 bt241.2.1 bt241.2.2 (([0,4,3] : List Int))).bind fun bt262 => (some (bt233.1,bt233.2.1,bt233.2.2.1,bt262.1,bt233.2.2.2.2.1,bt262.2.1,bt262.2.2))) else (if bt241.1 = 4 then ((spec_l1Cur_among.f s0_0 bt241.2.1 bt241.2.2 (([0,10,9] : List Int))).bind fun bt268 => (some (bt233.1,bt233.2.1,bt233.2.2.1,bt233.2.2.2.1,bt268.1,bt268.2.1,bt268.2.2))) else (some (bt233.1,bt233.2.1,bt233.2.2.1,bt233.2.2.2.1,bt233.2.2.2.2.1,bt241.2.1,bt241.2.2))))))))
theorem spec_l1Cur_anyContainer.mono : ∀ a0 a1 a2 k,LeO (spec_l1Cur_anyContainer.f k a0 a1 a2) (spec_l1Cur_anyContainer.f (k + 1) a0 a1 a2):=by
 intro a0 a1 a2 k
 unfold spec_l1Cur_anyContainer.f
 repeat' first
   | (with_reducible exact spec_l1Cur_anyId.mono _ _ _ _)
   | (with_reducible exact spec_l1Cur_container.mono _ _ _ _)
   | (with_reducible exact LeO.refl _)
   | (with_reducible exact LeO.none _)
   | (with_reducible refine LeO.ite ?_ ?_)
   | (with_reducible refine LeO.bind ?_ (fun _ => ?_))
   | exact spec_l1Cur_anyId.mono _ _ _ _
   | exact spec_l1Cur_container.mono _ _ _ _
   | exact LeO.none _
   | refine LeO.ite ?_ ?_
   | refine LeO.bind ?_ (fun _ => ?_)
set_option maxHeartbeats 8000000 in
set_option maxRecDepth 100000 in
theorem spec_l1Cur_anyContainer.calls (k : Nat) (g : Nat) (s0_0 : List Int) (s0_1 : Int) (s0_2 : Int) (r1 : ByteArray) (r2 : Int) (r3 : Int) (r4 : Int) (r5 : Int) (r6 : Int) (r7 : Int) (w0 w : World) (hI : IsS46 w0 w g s0_0 s0_1 s0_2) (hB : Below w0.heap.size w0 w) (h : spec_l1Cur_anyContainer.f k s0_0 s0_1 s0_2 = some (r1,r2,r3,r4,r5,r6,r7)) :
  Calls Try.prog 36 #[.pointer (some ⟨g,0,none⟩)] w fun e w' => e = .returned (.agg #[.string r1, .int .i64 r2, .int .i64 r3, .int .i64 r4, .int .i64 r5]) ∧ IsS46 w0 w' g s0_0 r6 r7 ∧ Below w0.heap.size w0 w' ∧ KeepBut w w' g none:=by
 have hu33:=Try.underlying33
 have HI0:=Aside0.mk hI
 have HK:=Aside0.mk (KeepBut.refl w g none)
 have HL:=Aside0.mk hB.size
 clear hI
 have HW0:=Aside0.mk hB.size
 have HB:=Aside0.mk hB
 clear hB
 have H : ((spec_l1Cur_container.f k s0_0 s0_1 s0_2).bind fun bt233 => ((spec_l1Cur_pick.f s0_0 bt233.2.2.2.2.2.1 bt233.2.2.2.2.2.2 24).bind fun bt241 => (if bt241.1 = 0 then ((spec_l1Cur_anyId.f k s0_0 bt241.2.1 bt241.2.2).bind fun bt244 => (some (bt244.1,bt233.2.1,bt233.2.2.1,bt233.2.2.2.1,bt233.2.2.2.2.1,bt244.2.1,bt244.2.2))) else (if bt241.1 = 1 then ((spec_l1Cur_among.f s0_0 bt241.2.1 bt241.2.2 (([0,3,2] : List Int))).bind fun bt250 => (some (bt233.1,bt250.1,bt233.2.2.1,bt233.2.2.2.1,bt233.2.2.2.2.1,bt250.2.1,bt250.2.2))) else (if bt241.1 = 2 then ((spec_l1Cur_among.f s0_0 bt241.2.1 bt241.2.2 (([0,32001,32000,1] : List Int))).bind fun bt256 => (some (bt233.1,bt233.2.1,bt256.1,bt233.2.2.2.1,bt233.2.2.2.2.1,bt256.2.1,bt256.2.2))) else (if bt241.1 = 3 then ((spec_l1Cur_among.f s0_0 bt241.2.1 bt241.2.2 (([0,4,3] : List Int))).bind fun bt262 => (some (bt233.1,bt233.2.1,bt233.2.2.1,bt262.1,bt233.2.2.2.2.1,bt262.2.1,bt262.2.2))) else (if bt241.1 = 4 then ((spec_l1Cur_among.f s0_0 bt241.2.1 bt241.2.2 (([0,10,9] : List Int))).bind fun bt268 => (some (bt233.1,bt233.2.1,bt233.2.2.1,bt233.2.2.2.1,bt268.1,bt268.2.1,bt268.2.2))) else (some (bt233.1,bt233.2.1,bt233.2.2.1,bt233.2.2.2.1,bt233.2.2.2.2.1,bt241.2.1,bt241.2.2))))))))) = some (r1,r2,r3,r4,r5,r6,r7):=h
 clear h
 replace H:=Option.bind_eq_some_iff.mp H
 obtain ⟨⟨t233,t234,t235,t236,t237,t238,t239⟩,A20,H⟩ := H
 replace H : ((spec_l1Cur_pick.f s0_0 t238 t239 24).bind fun bt241 => (if bt241.1 = 0 then ((spec_l1Cur_anyId.f k s0_0 bt241.2.1 bt241.2.2).bind fun bt244 => (some (bt244.1,t234,t235,t236,t237,bt244.2.1,bt244.2.2))) else (if bt241.1 = 1 then ((spec_l1Cur_among.f s0_0 bt241.2.1 bt241.2.2 (([0,3,2] : List Int))).bind fun bt250 => (some (t233,bt250.1,t235,t236,t237,bt250.2.1,bt250.2.2))) else (if bt241.1 = 2 then ((spec_l1Cur_among.f s0_0 bt241.2.1 bt241.2.2 (([0,32001,32000,1] : List Int))).bind fun bt256 => (some (t233,t234,bt256.1,t236,t237,bt256.2.1,bt256.2.2))) else (if bt241.1 = 3 then ((spec_l1Cur_among.f s0_0 bt241.2.1 bt241.2.2 (([0,4,3] : List Int))).bind fun bt262 => (some (t233,t234,t235,bt262.1,t237,bt262.2.1,bt262.2.2))) else (if bt241.1 = 4 then ((spec_l1Cur_among.f s0_0 bt241.2.1 bt241.2.2 (([0,10,9] : List Int))).bind fun bt268 => (some (t233,t234,t235,t236,bt268.1,bt268.2.1,bt268.2.2))) else (some (t233,t234,t235,t236,t237,bt241.2.1,bt241.2.2)))))))) = some (r1,r2,r3,r4,r5,r6,r7):=H
 have A2:=Aside0.mk A20
 clear A20
 replace H:=Option.bind_eq_some_iff.mp H
 obtain ⟨⟨t241,t242,t243⟩,A30,H⟩ := H
 replace H : (if t241 = 0 then ((spec_l1Cur_anyId.f k s0_0 t242 t243).bind fun bt244 => (some (bt244.1,t234,t235,t236,t237,bt244.2.1,bt244.2.2))) else (if t241 = 1 then ((spec_l1Cur_among.f s0_0 t242 t243 (([0,3,2] : List Int))).bind fun bt250 => (some (t233,bt250.1,t235,t236,t237,bt250.2.1,bt250.2.2))) else (if t241 = 2 then ((spec_l1Cur_among.f s0_0 t242 t243 (([0,32001,32000,1] : List Int))).bind fun bt256 => (some (t233,t234,bt256.1,t236,t237,bt256.2.1,bt256.2.2))) else (if t241 = 3 then ((spec_l1Cur_among.f s0_0 t242 t243 (([0,4,3] : List Int))).bind fun bt262 => (some (t233,t234,t235,bt262.1,t237,bt262.2.1,bt262.2.2))) else (if t241 = 4 then ((spec_l1Cur_among.f s0_0 t242 t243 (([0,10,9] : List Int))).bind fun bt268 => (some (t233,t234,t235,t236,bt268.1,bt268.2.1,bt268.2.2))) else (some (t233,t234,t235,t236,t237,t242,t243))))))) = some (r1,r2,r3,r4,r5,r6,r7):=H
 have A3:=Aside0.mk A30
 clear A30
 by_cases c4 : t241 = 0
 ·rw [if_pos c4] at H
  have c4b0 : (t241 == 0) = true:=beq_iff_eq.mpr c4
  have c4b1 : (t241 != 0) = false:=bne_eq_false_iff_eq.mpr c4
  clear c4
  replace H:=Option.bind_eq_some_iff.mp H
  obtain ⟨⟨t244,t245,t246⟩,A50,H⟩ := H
  replace H : (some (t244,t234,t235,t236,t237,t245,t246)) = some (r1,r2,r3,r4,r5,r6,r7):=H
  have A5:=Aside0.mk A50
  clear A50
  simp only [Option.some.injEq,Prod.mk.injEq] at H
  obtain ⟨rfl,rfl,rfl,rfl,rfl,rfl,rfl⟩ := H
  go_enter Try.func36,Try.ntmps36
  go_wp2_with (first | ((with_reducible refine gate_dst (N:=2) rfl ?_);refine box_event ?hg (N:=2) ?hd (cs:=#[.string (⟨#[]⟩ : ByteArray), .int .i64 0, .int .i64 0, .int .i64 0, .int .i64 0]) (t:=33) ?hr ?_;(case hd => rfl);(case hg => rfl);(case hr => (go_simp;done));intro gb232 hg w6 hbox hb;have n0_:=Aside0.mk (IsS46.below (by exact HI0.out) hb);have n1_:=Aside0.mk (KeepBut.trans (by exact HK.out) (KeepBut.of_below hb g none) (.inl rfl));have n2_:=Aside0.mk (below_step (by exact HB.out) hb);have n3_:=Aside0.mk (hbox);have n4_:=Aside0.mk ((by rw [hg];exact (keep_size (w:=w) (g:=g) (row:=none) (by exact HK.out)) : w.heap.size ≤ gb232));have n5_:=Aside0.mk ((Nat.le_trans HW0.out (by rw [hg];exact (keep_size (w:=w) (g:=g) (row:=none) (by exact HK.out)) : w.heap.size ≤ gb232) : w0.heap.size ≤ gb232));have n6_:=Aside0.mk ((by rw [hg];exact Nat.ne_of_lt (IsS46.lt (show IsS46 w0 _ g s0_0 s0_1 s0_2 from by exact HI0.out)) : g ≠ gb232));have n7_:=Aside0.mk ((by rw [hg];exact Nat.ne_of_gt (IsS46.lt (show IsS46 w0 _ g s0_0 s0_1 s0_2 from by exact HI0.out)) : gb232 ≠ g));clear HI0;clear HK;clear HB;have HI0:=n0_;have HK:=n1_;have HB:=n2_;have BK232:=n3_;have GW232:=n4_;have GE232:=n5_;have NB0_232:=n6_;have NB232_0:=n7_;clear n0_ n1_ n2_ n3_ n4_ n5_ n6_ n7_;clear hb hbox hg) | ((with_reducible refine gate_callee (f:=35) rfl ?_);refine goesL_ (some 5) rfl rfl Try.func35 (by kernel_rfl) rfl #[.pointer (some ⟨g,0,none⟩)] rfl (by (try simp only [List.map_toArray,List.map_cons,List.map_nil]);rfl) ?_;(with_reducible refine (spec_l1Cur_container.calls k g s0_0 s0_1 s0_2 t233 t234 t235 t236 t237 t238 t239 w0 _ ?side1 ?side2 A2.out).mono ?_);(case side1 => exact HI0.out);(case side2 => exact HB.out);rintro e w7 ⟨rfl,hi,hb,hk⟩;refine ⟨_,rfl, ?_⟩;have n0_:=Aside0.mk (KeepBut.blk hk (g':=gb232) (o := .cells #[.string (⟨#[]⟩ : ByteArray), .int .i64 0, .int .i64 0, .int .i64 0, .int .i64 0] 33 (0,0)) (by exact BK232.out) NB232_0.out (by simp));have n1_:=Aside0.mk (KeepBut.trans (by exact HK.out) hk (.inl rfl));have n2_:=Aside0.mk (hb);have n3_:=Aside0.mk (hi);clear BK232;clear HK;clear HB;clear HI0;have BK232:=n0_;have HK:=n1_;have HB:=n2_;have HI0:=n3_;clear n0_ n1_ n2_ n3_;(try clear hb);(try clear hk);(try clear hi)) | ((with_reducible refine gate_dst (N:=3) rfl ?_);refine box_event ?hg (N:=3) ?hd (cs:=#[.string (⟨#[]⟩ : ByteArray), .int .i64 0, .int .i64 0, .int .i64 0, .int .i64 0]) (t:=33) ?hr ?_;(case hd => rfl);(case hg => rfl);(case hr => (go_simp;done));intro gb240 hg w8 hbox hb;have n0_:=Aside0.mk (IsS46.below (by exact HI0.out) hb);have n1_:=Aside0.mk (blk_below (g:=gb232) (o := .cells #[.string (⟨#[]⟩ : ByteArray), .int .i64 0, .int .i64 0, .int .i64 0, .int .i64 0] 33 (0,0)) (by exact BK232.out) hb);have n2_:=Aside0.mk (KeepBut.trans (by exact HK.out) (KeepBut.of_below hb g none) (.inl rfl));have n3_:=Aside0.mk (below_step (by exact HB.out) hb);have n4_:=Aside0.mk (hbox);have n5_:=Aside0.mk ((by rw [hg];exact (keep_size (w:=w) (g:=g) (row:=none) (by exact HK.out)) : w.heap.size ≤ gb240));have n6_:=Aside0.mk ((Nat.le_trans HW0.out (by rw [hg];exact (keep_size (w:=w) (g:=g) (row:=none) (by exact HK.out)) : w.heap.size ≤ gb240) : w0.heap.size ≤ gb240));have n7_:=Aside0.mk ((by rw [hg];exact Nat.ne_of_lt (blk_lt (g:=gb232) (o := .cells #[.string (⟨#[]⟩ : ByteArray), .int .i64 0, .int .i64 0, .int .i64 0, .int .i64 0] 33 (0,0)) (by exact BK232.out)) : gb232 ≠ gb240));have n8_:=Aside0.mk ((by rw [hg];exact Nat.ne_of_gt (blk_lt (g:=gb232) (o := .cells #[.string (⟨#[]⟩ : ByteArray), .int .i64 0, .int .i64 0, .int .i64 0, .int .i64 0] 33 (0,0)) (by exact BK232.out)) : gb240 ≠ gb232));have n9_:=Aside0.mk ((by rw [hg];exact Nat.ne_of_lt (IsS46.lt (show IsS46 w0 _ g s0_0 t238 t239 from by exact HI0.out)) : g ≠ gb240));have n10_:=Aside0.mk ((by rw [hg];exact Nat.ne_of_gt (IsS46.lt (show IsS46 w0 _ g s0_0 t238 t239 from by exact HI0.out)) : gb240 ≠ g));clear HI0;clear BK232;clear HK;clear HB;have HI0:=n0_;have BK232:=n1_;have HK:=n2_;have HB:=n3_;have BK240:=n4_;have GW240:=n5_;have GE240:=n6_;have NB232_240:=n7_;have NB240_232:=n8_;have NB0_240:=n9_;have NB240_0:=n10_;clear n0_ n1_ n2_ n3_ n4_ n5_ n6_ n7_ n8_ n9_ n10_;clear hb hbox hg;have hnb9:=NB240_232.out;have hnc9:=NB232_240.out;have hnb10:=NB240_0.out;have hnc10:=NB0_240.out;have hcz11_0 : w8.cell? ⟨gb240,0,none⟩ = some (.string (⟨#[]⟩ : ByteArray)):=(blk_cell BK240.out 0).trans rfl;have hcz11_1 : w8.cell? ⟨gb240,1,none⟩ = some (.int .i64 0):=(blk_cell BK240.out 1).trans rfl;have hcz11_2 : w8.cell? ⟨gb240,2,none⟩ = some (.int .i64 0):=(blk_cell BK240.out 2).trans rfl;have hcz11_3 : w8.cell? ⟨gb240,3,none⟩ = some (.int .i64 0):=(blk_cell BK240.out 3).trans rfl;have hcz11_4 : w8.cell? ⟨gb240,4,none⟩ = some (.int .i64 0):=(blk_cell BK240.out 4).trans rfl;have hfz11_0:=blk_frozen BK240.out 0;have hfz11_1:=blk_frozen BK240.out 1;have hfz11_2:=blk_frozen BK240.out 2;have hfz11_3:=blk_frozen BK240.out 3;have hfz11_4:=blk_frozen BK240.out 4) | ((with_reducible refine gate_callee (f:=21) rfl ?_);refine goesL_ (some 7) rfl rfl Try.func21 (by kernel_rfl) rfl #[.pointer (some ⟨g,0,none⟩), .int .i64 24] rfl (by (try simp only [List.map_toArray,List.map_cons,List.map_nil]);rfl) ?_;(with_reducible refine (spec_l1Cur_pick.calls g s0_0 t238 t239 24 t241 t242 t243 w0 _ ?side1 ?side2 A3.out).mono ?_);(case side1 => repeat ((with_reducible first | exact HI0.out | refine IsS46.far ?_ NB0_240.out _)));(case side2 => repeat ((with_reducible first | exact HB.out | refine below_set ?_ GE240.out)));rintro e w12 ⟨rfl,hi,hb,hk⟩;refine ⟨_,rfl, ?_⟩;have n0_:=Aside0.mk (KeepBut.blk hk (g':=gb232) (o := .cells #[.string (⟨#[]⟩ : ByteArray), .int .i64 0, .int .i64 0, .int .i64 0, .int .i64 0] 33 (0,0)) (by refine blk_far ?_ NB232_240.out _;refine blk_far ?_ NB232_240.out _;refine blk_far ?_ NB232_240.out _;refine blk_far ?_ NB232_240.out _;refine blk_far ?_ NB232_240.out _;exact BK232.out) NB232_0.out (by simp));have n1_:=Aside0.mk (KeepBut.blk hk (g':=gb240) (o := .cells #[.string t233, .int .i64 t234, .int .i64 t235, .int .i64 t236, .int .i64 t237] 33 (0,0)) (by refine blk_put (cs:=#[.string t233, .int .i64 t234, .int .i64 t235, .int .i64 t236, .int .i64 0]) ?_ 4 _ rfl;refine blk_put (cs:=#[.string t233, .int .i64 t234, .int .i64 t235, .int .i64 0, .int .i64 0]) ?_ 3 _ rfl;refine blk_put (cs:=#[.string t233, .int .i64 t234, .int .i64 0, .int .i64 0, .int .i64 0]) ?_ 2 _ rfl;refine blk_put (cs:=#[.string t233, .int .i64 0, .int .i64 0, .int .i64 0, .int .i64 0]) ?_ 1 _ rfl;refine blk_put (cs:=#[.string (⟨#[]⟩ : ByteArray), .int .i64 0, .int .i64 0, .int .i64 0, .int .i64 0]) ?_ 0 _ rfl;exact BK240.out) NB240_0.out (by simp));have n2_:=Aside0.mk (KeepBut.trans (by repeat ((with_reducible first | exact HK.out | refine keep_far ?_ GW240.out _))) hk (.inl rfl));have n3_:=Aside0.mk (hb);have n4_:=Aside0.mk (hi);clear BK232;clear BK240;clear HK;clear HB;clear HI0;have BK232:=n0_;have BK240:=n1_;have HK:=n2_;have HB:=n3_;have HI0:=n4_;clear n0_ n1_ n2_ n3_ n4_;(try clear hb);(try clear hk);(try clear hi)) | ((with_reducible refine gate_callee (f:=52) rfl ?_);refine goesL_ (some 11) rfl rfl Try.func52 (by kernel_rfl) rfl #[.pointer (some ⟨g,0,none⟩)] rfl (by (try simp only [List.map_toArray,List.map_cons,List.map_nil]);rfl) ?_;(with_reducible refine (spec_l1Cur_anyId.calls k g s0_0 t242 t243 t244 t245 t246 w0 _ ?side1 ?side2 A5.out).mono ?_);(case side1 => exact HI0.out);(case side2 => exact HB.out);rintro e w13 ⟨rfl,hi,hb,hk⟩;refine ⟨_,rfl, ?_⟩;have n0_:=Aside0.mk (KeepBut.blk hk (g':=gb232) (o := .cells #[.string (⟨#[]⟩ : ByteArray), .int .i64 0, .int .i64 0, .int .i64 0, .int .i64 0] 33 (0,0)) (by exact BK232.out) NB232_0.out (by simp));have n1_:=Aside0.mk (KeepBut.blk hk (g':=gb240) (o := .cells #[.string t233, .int .i64 t234, .int .i64 t235, .int .i64 t236, .int .i64 t237] 33 (0,0)) (by exact BK240.out) NB240_0.out (by simp));have n2_:=Aside0.mk (KeepBut.trans (by exact HK.out) hk (.inl rfl));have n3_:=Aside0.mk (hb);have n4_:=Aside0.mk (hi);clear BK232;clear BK240;clear HK;clear HB;clear HI0;have BK232:=n0_;have BK240:=n1_;have HK:=n2_;have HB:=n3_;have HI0:=n4_;clear n0_ n1_ n2_ n3_ n4_;(try clear hb);(try clear hk);(try clear hi);have hcz14_0 : w13.cell? ⟨gb240,0,none⟩ = some (.string t233):=(blk_cell BK240.out 0).trans rfl;have hcz14_1 : w13.cell? ⟨gb240,1,none⟩ = some (.int .i64 t234):=(blk_cell BK240.out 1).trans rfl;have hcz14_2 : w13.cell? ⟨gb240,2,none⟩ = some (.int .i64 t235):=(blk_cell BK240.out 2).trans rfl;have hcz14_3 : w13.cell? ⟨gb240,3,none⟩ = some (.int .i64 t236):=(blk_cell BK240.out 3).trans rfl;have hcz14_4 : w13.cell? ⟨gb240,4,none⟩ = some (.int .i64 t237):=(blk_cell BK240.out 4).trans rfl;have hfz14_0:=blk_frozen BK240.out 0;have hfz14_1:=blk_frozen BK240.out 1;have hfz14_2:=blk_frozen BK240.out 2;have hfz14_3:=blk_frozen BK240.out 3;have hfz14_4:=blk_frozen BK240.out 4;have hnb15:=NB232_0.out;have hnc15:=NB0_232.out;have hcz16_0 : w13.cell? ⟨gb232,0,none⟩ = some (.string (⟨#[]⟩ : ByteArray)):=(blk_cell BK232.out 0).trans rfl;have hcz16_1 : w13.cell? ⟨gb232,1,none⟩ = some (.int .i64 0):=(blk_cell BK232.out 1).trans rfl;have hcz16_2 : w13.cell? ⟨gb232,2,none⟩ = some (.int .i64 0):=(blk_cell BK232.out 2).trans rfl;have hcz16_3 : w13.cell? ⟨gb232,3,none⟩ = some (.int .i64 0):=(blk_cell BK232.out 3).trans rfl;have hcz16_4 : w13.cell? ⟨gb232,4,none⟩ = some (.int .i64 0):=(blk_cell BK232.out 4).trans rfl;have hfz16_0:=blk_frozen BK232.out 0;have hfz16_1:=blk_frozen BK232.out 1;have hfz16_2:=blk_frozen BK232.out 2;have hfz16_3:=blk_frozen BK232.out 3;have hfz16_4:=blk_frozen BK232.out 4))
  refine bodyPost_ret (results_cell_row rfl _ _ gb232 33 #[.string t244, .int .i64 t234, .int .i64 t235, .int .i64 t236, .int .i64 t237] (0,0) _ rfl (by refine blk_put (cs:=#[.string t244, .int .i64 t234, .int .i64 t235, .int .i64 t236, .int .i64 0]) ?_ 4 _ rfl;refine blk_put (cs:=#[.string t244, .int .i64 t234, .int .i64 t235, .int .i64 0, .int .i64 0]) ?_ 3 _ rfl;refine blk_put (cs:=#[.string t244, .int .i64 t234, .int .i64 0, .int .i64 0, .int .i64 0]) ?_ 2 _ rfl;refine blk_put (cs:=#[.string t244, .int .i64 0, .int .i64 0, .int .i64 0, .int .i64 0]) ?_ 1 _ rfl;refine blk_put (cs:=#[.string (⟨#[]⟩ : ByteArray), .int .i64 0, .int .i64 0, .int .i64 0, .int .i64 0]) ?_ 0 _ rfl;refine blk_far ?_ NB232_240.out _;exact BK232.out) Try.underlying33 rfl (by kernel_rfl)) rfl ?_
  exact ⟨by rfl,by repeat ((with_reducible first | exact HI0.out | refine IsS46.far ?_ NB0_232.out _ | refine IsS46.far ?_ NB0_240.out _)),by repeat ((with_reducible first | exact HB.out | refine below_set ?_ GE232.out | refine below_set ?_ GE240.out)),by repeat ((with_reducible first | exact HK.out | refine keep_far ?_ GW232.out _ | refine keep_far ?_ GW240.out _))⟩
 ·rw [if_neg c4] at H
  have c4b0 : (t241 == 0) = false:=beq_eq_false_iff_ne.mpr c4
  have c4b1 : (t241 != 0) = true:=bne_iff_ne.mpr c4
  by_cases c17 : t241 = 1
  ·rw [if_pos c17] at H
   have c17b0 : (t241 == 1) = true:=beq_iff_eq.mpr c17
   have c17b1 : (t241 != 1) = false:=bne_eq_false_iff_eq.mpr c17
   clear c17
   obtain ⟨y247,hy247⟩ : ∃ y_ : List Int,y_ = (([0,3,2] : List Int)):=⟨_,rfl⟩
   replace H : ((spec_l1Cur_among.f s0_0 t242 t243 y247).bind fun bt250 => (some (t233,bt250.1,t235,t236,t237,bt250.2.1,bt250.2.2))) = some (r1,r2,r3,r4,r5,r6,r7):=by (rw [hy247];with_reducible exact H)
   have Ny247:=Aside0.mk hy247
   clear hy247
   replace H:=Option.bind_eq_some_iff.mp H
   obtain ⟨⟨t250,t251,t252⟩,A180,H⟩ := H
   replace H : (some (t233,t250,t235,t236,t237,t251,t252)) = some (r1,r2,r3,r4,r5,r6,r7):=H
   have A18:=Aside0.mk A180
   clear A180
   simp only [Option.some.injEq,Prod.mk.injEq] at H
   obtain ⟨rfl,rfl,rfl,rfl,rfl,rfl,rfl⟩ := H
   go_enter Try.func36,Try.ntmps36
   go_wp2_with (first | ((with_reducible refine gate_dst (N:=2) rfl ?_);refine box_event ?hg (N:=2) ?hd (cs:=#[.string (⟨#[]⟩ : ByteArray), .int .i64 0, .int .i64 0, .int .i64 0, .int .i64 0]) (t:=33) ?hr ?_;(case hd => rfl);(case hg => rfl);(case hr => (go_simp;done));intro gb232 hg w19 hbox hb;have n0_:=Aside0.mk (IsS46.below (by exact HI0.out) hb);have n1_:=Aside0.mk (KeepBut.trans (by exact HK.out) (KeepBut.of_below hb g none) (.inl rfl));have n2_:=Aside0.mk (below_step (by exact HB.out) hb);have n3_:=Aside0.mk (hbox);have n4_:=Aside0.mk ((by rw [hg];exact (keep_size (w:=w) (g:=g) (row:=none) (by exact HK.out)) : w.heap.size ≤ gb232));have n5_:=Aside0.mk ((Nat.le_trans HW0.out (by rw [hg];exact (keep_size (w:=w) (g:=g) (row:=none) (by exact HK.out)) : w.heap.size ≤ gb232) : w0.heap.size ≤ gb232));have n6_:=Aside0.mk ((by rw [hg];exact Nat.ne_of_lt (IsS46.lt (show IsS46 w0 _ g s0_0 s0_1 s0_2 from by exact HI0.out)) : g ≠ gb232));have n7_:=Aside0.mk ((by rw [hg];exact Nat.ne_of_gt (IsS46.lt (show IsS46 w0 _ g s0_0 s0_1 s0_2 from by exact HI0.out)) : gb232 ≠ g));clear HI0;clear HK;clear HB;have HI0:=n0_;have HK:=n1_;have HB:=n2_;have BK232:=n3_;have GW232:=n4_;have GE232:=n5_;have NB0_232:=n6_;have NB232_0:=n7_;clear n0_ n1_ n2_ n3_ n4_ n5_ n6_ n7_;clear hb hbox hg) | ((with_reducible refine gate_callee (f:=35) rfl ?_);refine goesL_ (some 5) rfl rfl Try.func35 (by kernel_rfl) rfl #[.pointer (some ⟨g,0,none⟩)] rfl (by (try simp only [List.map_toArray,List.map_cons,List.map_nil]);rfl) ?_;(with_reducible refine (spec_l1Cur_container.calls k g s0_0 s0_1 s0_2 t233 t234 t235 t236 t237 t238 t239 w0 _ ?side1 ?side2 A2.out).mono ?_);(case side1 => exact HI0.out);(case side2 => exact HB.out);rintro e w20 ⟨rfl,hi,hb,hk⟩;refine ⟨_,rfl, ?_⟩;have n0_:=Aside0.mk (KeepBut.blk hk (g':=gb232) (o := .cells #[.string (⟨#[]⟩ : ByteArray), .int .i64 0, .int .i64 0, .int .i64 0, .int .i64 0] 33 (0,0)) (by exact BK232.out) NB232_0.out (by simp));have n1_:=Aside0.mk (KeepBut.trans (by exact HK.out) hk (.inl rfl));have n2_:=Aside0.mk (hb);have n3_:=Aside0.mk (hi);clear BK232;clear HK;clear HB;clear HI0;have BK232:=n0_;have HK:=n1_;have HB:=n2_;have HI0:=n3_;clear n0_ n1_ n2_ n3_;(try clear hb);(try clear hk);(try clear hi)) | ((with_reducible refine gate_dst (N:=3) rfl ?_);refine box_event ?hg (N:=3) ?hd (cs:=#[.string (⟨#[]⟩ : ByteArray), .int .i64 0, .int .i64 0, .int .i64 0, .int .i64 0]) (t:=33) ?hr ?_;(case hd => rfl);(case hg => rfl);(case hr => (go_simp;done));intro gb240 hg w21 hbox hb;have n0_:=Aside0.mk (IsS46.below (by exact HI0.out) hb);have n1_:=Aside0.mk (blk_below (g:=gb232) (o := .cells #[.string (⟨#[]⟩ : ByteArray), .int .i64 0, .int .i64 0, .int .i64 0, .int .i64 0] 33 (0,0)) (by exact BK232.out) hb);have n2_:=Aside0.mk (KeepBut.trans (by exact HK.out) (KeepBut.of_below hb g none) (.inl rfl));have n3_:=Aside0.mk (below_step (by exact HB.out) hb);have n4_:=Aside0.mk (hbox);have n5_:=Aside0.mk ((by rw [hg];exact (keep_size (w:=w) (g:=g) (row:=none) (by exact HK.out)) : w.heap.size ≤ gb240));have n6_:=Aside0.mk ((Nat.le_trans HW0.out (by rw [hg];exact (keep_size (w:=w) (g:=g) (row:=none) (by exact HK.out)) : w.heap.size ≤ gb240) : w0.heap.size ≤ gb240));have n7_:=Aside0.mk ((by rw [hg];exact Nat.ne_of_lt (blk_lt (g:=gb232) (o := .cells #[.string (⟨#[]⟩ : ByteArray), .int .i64 0, .int .i64 0, .int .i64 0, .int .i64 0] 33 (0,0)) (by exact BK232.out)) : gb232 ≠ gb240));have n8_:=Aside0.mk ((by rw [hg];exact Nat.ne_of_gt (blk_lt (g:=gb232) (o := .cells #[.string (⟨#[]⟩ : ByteArray), .int .i64 0, .int .i64 0, .int .i64 0, .int .i64 0] 33 (0,0)) (by exact BK232.out)) : gb240 ≠ gb232));have n9_:=Aside0.mk ((by rw [hg];exact Nat.ne_of_lt (IsS46.lt (show IsS46 w0 _ g s0_0 t238 t239 from by exact HI0.out)) : g ≠ gb240));have n10_:=Aside0.mk ((by rw [hg];exact Nat.ne_of_gt (IsS46.lt (show IsS46 w0 _ g s0_0 t238 t239 from by exact HI0.out)) : gb240 ≠ g));clear HI0;clear BK232;clear HK;clear HB;have HI0:=n0_;have BK232:=n1_;have HK:=n2_;have HB:=n3_;have BK240:=n4_;have GW240:=n5_;have GE240:=n6_;have NB232_240:=n7_;have NB240_232:=n8_;have NB0_240:=n9_;have NB240_0:=n10_;clear n0_ n1_ n2_ n3_ n4_ n5_ n6_ n7_ n8_ n9_ n10_;clear hb hbox hg;have hnb22:=NB240_232.out;have hnc22:=NB232_240.out;have hnb23:=NB240_0.out;have hnc23:=NB0_240.out;have hcz24_0 : w21.cell? ⟨gb240,0,none⟩ = some (.string (⟨#[]⟩ : ByteArray)):=(blk_cell BK240.out 0).trans rfl;have hcz24_1 : w21.cell? ⟨gb240,1,none⟩ = some (.int .i64 0):=(blk_cell BK240.out 1).trans rfl;have hcz24_2 : w21.cell? ⟨gb240,2,none⟩ = some (.int .i64 0):=(blk_cell BK240.out 2).trans rfl;have hcz24_3 : w21.cell? ⟨gb240,3,none⟩ = some (.int .i64 0):=(blk_cell BK240.out 3).trans rfl;have hcz24_4 : w21.cell? ⟨gb240,4,none⟩ = some (.int .i64 0):=(blk_cell BK240.out 4).trans rfl;have hfz24_0:=blk_frozen BK240.out 0;have hfz24_1:=blk_frozen BK240.out 1;have hfz24_2:=blk_frozen BK240.out 2;have hfz24_3:=blk_frozen BK240.out 3;have hfz24_4:=blk_frozen BK240.out 4) | ((with_reducible refine gate_callee (f:=21) rfl ?_);refine goesL_ (some 7) rfl rfl Try.func21 (by kernel_rfl) rfl #[.pointer (some ⟨g,0,none⟩), .int .i64 24] rfl (by (try simp only [List.map_toArray,List.map_cons,List.map_nil]);rfl) ?_;(with_reducible refine (spec_l1Cur_pick.calls g s0_0 t238 t239 24 t241 t242 t243 w0 _ ?side1 ?side2 A3.out).mono ?_);(case side1 => repeat ((with_reducible first | exact HI0.out | refine IsS46.far ?_ NB0_240.out _)));(case side2 => repeat ((with_reducible first | exact HB.out | refine below_set ?_ GE240.out)));rintro e w25 ⟨rfl,hi,hb,hk⟩;refine ⟨_,rfl, ?_⟩;have n0_:=Aside0.mk (KeepBut.blk hk (g':=gb232) (o := .cells #[.string (⟨#[]⟩ : ByteArray), .int .i64 0, .int .i64 0, .int .i64 0, .int .i64 0] 33 (0,0)) (by refine blk_far ?_ NB232_240.out _;refine blk_far ?_ NB232_240.out _;refine blk_far ?_ NB232_240.out _;refine blk_far ?_ NB232_240.out _;refine blk_far ?_ NB232_240.out _;exact BK232.out) NB232_0.out (by simp));have n1_:=Aside0.mk (KeepBut.blk hk (g':=gb240) (o := .cells #[.string t233, .int .i64 t234, .int .i64 t235, .int .i64 t236, .int .i64 t237] 33 (0,0)) (by refine blk_put (cs:=#[.string t233, .int .i64 t234, .int .i64 t235, .int .i64 t236, .int .i64 0]) ?_ 4 _ rfl;refine blk_put (cs:=#[.string t233, .int .i64 t234, .int .i64 t235, .int .i64 0, .int .i64 0]) ?_ 3 _ rfl;refine blk_put (cs:=#[.string t233, .int .i64 t234, .int .i64 0, .int .i64 0, .int .i64 0]) ?_ 2 _ rfl;refine blk_put (cs:=#[.string t233, .int .i64 0, .int .i64 0, .int .i64 0, .int .i64 0]) ?_ 1 _ rfl;refine blk_put (cs:=#[.string (⟨#[]⟩ : ByteArray), .int .i64 0, .int .i64 0, .int .i64 0, .int .i64 0]) ?_ 0 _ rfl;exact BK240.out) NB240_0.out (by simp));have n2_:=Aside0.mk (KeepBut.trans (by repeat ((with_reducible first | exact HK.out | refine keep_far ?_ GW240.out _))) hk (.inl rfl));have n3_:=Aside0.mk (hb);have n4_:=Aside0.mk (hi);clear BK232;clear BK240;clear HK;clear HB;clear HI0;have BK232:=n0_;have BK240:=n1_;have HK:=n2_;have HB:=n3_;have HI0:=n4_;clear n0_ n1_ n2_ n3_ n4_;(try clear hb);(try clear hk);(try clear hi)) | ((with_reducible refine gate_dst (N:=16) rfl ?_);refine Kd.R_lit (Kd.int .i64) _ 3 ?hg (N:=16) ?hd (xs:=([0,3,2] : List Int)) (inner := [.int .i64 0, .int .i64 3, .int .i64 2]) (ok:=fun _ => True) (okp:=fun _ => True) ?hr ?hp (fun _ hk => hk) trivial (Below.refl _ _) (Nat.le_refl _) (by simp) ?_;(case hd => rfl);(case hg => rfl);(case hr => (go_simp;done));(case hp => exact (Reps.one (show Kd.M (Kd.int .i64) _ _ _ 0 [.int .i64 0] from rfl) (Reps.one (show Kd.M (Kd.int .i64) _ _ _ 3 [.int .i64 3] from rfl) (Reps.one (show Kd.M (Kd.int .i64) _ _ _ 2 [.int .i64 2] from rfl) (Reps.none _ _)))));intro v248 w26 ho27 hb hg_ hnew_;clear hg_ hnew_;(rw [← Ny247.out] at ho27);have n0_:=Aside0.mk (Kd.R_lower ho27 (keep_size (w:=w) (g:=g) (row:=none) (by exact HK.out)));have n1_:=Aside0.mk (IsS46.below (by exact HI0.out) hb);have n2_:=Aside0.mk (blk_below (g:=gb232) (o := .cells #[.string (⟨#[]⟩ : ByteArray), .int .i64 0, .int .i64 0, .int .i64 0, .int .i64 0] 33 (0,0)) (by exact BK232.out) hb);have n3_:=Aside0.mk (blk_below (g:=gb240) (o := .cells #[.string t233, .int .i64 t234, .int .i64 t235, .int .i64 t236, .int .i64 t237] 33 (0,0)) (by exact BK240.out) hb);have n4_:=Aside0.mk (KeepBut.trans (by exact HK.out) (KeepBut.of_below hb g none) (.inl rfl));have n5_:=Aside0.mk (below_step (by exact HB.out) hb);clear HI0;clear BK232;clear BK240;clear HK;clear HB;have HO249:=n0_;have HI0:=n1_;have BK232:=n2_;have BK240:=n3_;have HK:=n4_;have HB:=n5_;clear n0_ n1_ n2_ n3_ n4_ n5_;clear hb ho27;obtain ⟨Ao28,co28,eo28⟩ := Kd.R_slice HO249.out;subst eo28) | ((with_reducible refine gate_callee (f:=34) rfl ?_);refine goesL_ (some 17) rfl rfl Try.func34 (by kernel_rfl) rfl #[.pointer (some ⟨g,0,none⟩), .slice Ao28 y247.length co28] rfl (by (try simp only [List.map_toArray,List.map_cons,List.map_nil]);rfl) ?_;(with_reducible refine (spec_l1Cur_among.calls g s0_0 t242 t243 _ _ y247 t250 t251 t252 w0 _ ?side1 ?side2 ?side3 ?side4 ?side5 A18.out).mono ?_);(case side1 => exact HI0.out);(case side2 => exact HB.out);(case side3 => repeat (exact (Kd.R_reads' HO249.out).2.2));(case side4 => exact (Kd.R_reads' HO249.out).2.1);(case side5 => exact far_slice (IsS46.own_ne HI0.out HO249.out (by decide)));rintro e w29 ⟨rfl,hi,hb,hk⟩;refine ⟨_,rfl, ?_⟩;have n0_:=Aside0.mk (KeepBut.blk hk (g':=gb232) (o := .cells #[.string (⟨#[]⟩ : ByteArray), .int .i64 0, .int .i64 0, .int .i64 0, .int .i64 0] 33 (0,0)) (by exact BK232.out) NB232_0.out (by simp));have n1_:=Aside0.mk (KeepBut.blk hk (g':=gb240) (o := .cells #[.string t233, .int .i64 t234, .int .i64 t235, .int .i64 t236, .int .i64 t237] 33 (0,0)) (by exact BK240.out) NB240_0.out (by simp));have n2_:=Aside0.mk (Kd.R_mono (Kd.R_keep (IsS46.apart (show IsS46 w0 _ g s0_0 t242 t243 from by exact HI0.out) (by exact HO249.out) (by decide)) hk (fun _ h => h.2)) (fun _ h => h.1));have n3_:=Aside0.mk (KeepBut.trans (by exact HK.out) hk (.inl rfl));have n4_:=Aside0.mk (hb);have n5_:=Aside0.mk (hi);clear BK232;clear BK240;clear HO249;clear HK;clear HB;clear HI0;have BK232:=n0_;have BK240:=n1_;have HO249:=n2_;have HK:=n3_;have HB:=n4_;have HI0:=n5_;clear n0_ n1_ n2_ n3_ n4_ n5_;(try clear hb);(try clear hk);(try clear hi);have hcz30_0 : w29.cell? ⟨gb240,0,none⟩ = some (.string t233):=(blk_cell BK240.out 0).trans rfl;have hcz30_1 : w29.cell? ⟨gb240,1,none⟩ = some (.int .i64 t234):=(blk_cell BK240.out 1).trans rfl;have hcz30_2 : w29.cell? ⟨gb240,2,none⟩ = some (.int .i64 t235):=(blk_cell BK240.out 2).trans rfl;have hcz30_3 : w29.cell? ⟨gb240,3,none⟩ = some (.int .i64 t236):=(blk_cell BK240.out 3).trans rfl;have hcz30_4 : w29.cell? ⟨gb240,4,none⟩ = some (.int .i64 t237):=(blk_cell BK240.out 4).trans rfl;have hfz30_0:=blk_frozen BK240.out 0;have hfz30_1:=blk_frozen BK240.out 1;have hfz30_2:=blk_frozen BK240.out 2;have hfz30_3:=blk_frozen BK240.out 3;have hfz30_4:=blk_frozen BK240.out 4;have hnb31:=NB232_0.out;have hnc31:=NB0_232.out;have hcz32_0 : w29.cell? ⟨gb232,0,none⟩ = some (.string (⟨#[]⟩ : ByteArray)):=(blk_cell BK232.out 0).trans rfl;have hcz32_1 : w29.cell? ⟨gb232,1,none⟩ = some (.int .i64 0):=(blk_cell BK232.out 1).trans rfl;have hcz32_2 : w29.cell? ⟨gb232,2,none⟩ = some (.int .i64 0):=(blk_cell BK232.out 2).trans rfl;have hcz32_3 : w29.cell? ⟨gb232,3,none⟩ = some (.int .i64 0):=(blk_cell BK232.out 3).trans rfl;have hcz32_4 : w29.cell? ⟨gb232,4,none⟩ = some (.int .i64 0):=(blk_cell BK232.out 4).trans rfl;have hfz32_0:=blk_frozen BK232.out 0;have hfz32_1:=blk_frozen BK232.out 1;have hfz32_2:=blk_frozen BK232.out 2;have hfz32_3:=blk_frozen BK232.out 3;have hfz32_4:=blk_frozen BK232.out 4))
   refine bodyPost_ret (results_cell_row rfl _ _ gb232 33 #[.string t233, .int .i64 t250, .int .i64 t235, .int .i64 t236, .int .i64 t237] (0,0) _ rfl (by refine blk_put (cs:=#[.string t233, .int .i64 t250, .int .i64 t235, .int .i64 t236, .int .i64 0]) ?_ 4 _ rfl;refine blk_put (cs:=#[.string t233, .int .i64 t250, .int .i64 t235, .int .i64 0, .int .i64 0]) ?_ 3 _ rfl;refine blk_put (cs:=#[.string t233, .int .i64 t250, .int .i64 0, .int .i64 0, .int .i64 0]) ?_ 2 _ rfl;refine blk_put (cs:=#[.string t233, .int .i64 0, .int .i64 0, .int .i64 0, .int .i64 0]) ?_ 1 _ rfl;refine blk_put (cs:=#[.string (⟨#[]⟩ : ByteArray), .int .i64 0, .int .i64 0, .int .i64 0, .int .i64 0]) ?_ 0 _ rfl;refine blk_far ?_ NB232_240.out _;exact BK232.out) Try.underlying33 rfl (by kernel_rfl)) rfl ?_
   exact ⟨by rfl,by repeat ((with_reducible first | exact HI0.out | refine IsS46.far ?_ NB0_232.out _ | refine IsS46.far ?_ NB0_240.out _)),by repeat ((with_reducible first | exact HB.out | refine below_set ?_ GE232.out | refine below_set ?_ GE240.out)),by repeat ((with_reducible first | exact HK.out | refine keep_far ?_ GW232.out _ | refine keep_far ?_ GW240.out _))⟩
  ·rw [if_neg c17] at H
   have c17b0 : (t241 == 1) = false:=beq_eq_false_iff_ne.mpr c17
   have c17b1 : (t241 != 1) = true:=bne_iff_ne.mpr c17
   by_cases c33 : t241 = 2
   ·rw [if_pos c33] at H
    have c33b0 : (t241 == 2) = true:=beq_iff_eq.mpr c33
    have c33b1 : (t241 != 2) = false:=bne_eq_false_iff_eq.mpr c33
    clear c33
    obtain ⟨y253,hy253⟩ : ∃ y_ : List Int,y_ = (([0,32001,32000,1] : List Int)):=⟨_,rfl⟩
    replace H : ((spec_l1Cur_among.f s0_0 t242 t243 y253).bind fun bt256 => (some (t233,t234,bt256.1,t236,t237,bt256.2.1,bt256.2.2))) = some (r1,r2,r3,r4,r5,r6,r7):=by (rw [hy253];with_reducible exact H)
    have Ny253:=Aside0.mk hy253
    clear hy253
    replace H:=Option.bind_eq_some_iff.mp H
    obtain ⟨⟨t256,t257,t258⟩,A340,H⟩ := H
    replace H : (some (t233,t234,t256,t236,t237,t257,t258)) = some (r1,r2,r3,r4,r5,r6,r7):=H
    have A34:=Aside0.mk A340
    clear A340
    simp only [Option.some.injEq,Prod.mk.injEq] at H
    obtain ⟨rfl,rfl,rfl,rfl,rfl,rfl,rfl⟩ := H
    go_enter Try.func36,Try.ntmps36
    go_wp2_with (first | ((with_reducible refine gate_dst (N:=2) rfl ?_);refine box_event ?hg (N:=2) ?hd (cs:=#[.string (⟨#[]⟩ : ByteArray), .int .i64 0, .int .i64 0, .int .i64 0, .int .i64 0]) (t:=33) ?hr ?_;(case hd => rfl);(case hg => rfl);(case hr => (go_simp;done));intro gb232 hg w35 hbox hb;have n0_:=Aside0.mk (IsS46.below (by exact HI0.out) hb);have n1_:=Aside0.mk (KeepBut.trans (by exact HK.out) (KeepBut.of_below hb g none) (.inl rfl));have n2_:=Aside0.mk (below_step (by exact HB.out) hb);have n3_:=Aside0.mk (hbox);have n4_:=Aside0.mk ((by rw [hg];exact (keep_size (w:=w) (g:=g) (row:=none) (by exact HK.out)) : w.heap.size ≤ gb232));have n5_:=Aside0.mk ((Nat.le_trans HW0.out (by rw [hg];exact (keep_size (w:=w) (g:=g) (row:=none) (by exact HK.out)) : w.heap.size ≤ gb232) : w0.heap.size ≤ gb232));have n6_:=Aside0.mk ((by rw [hg];exact Nat.ne_of_lt (IsS46.lt (show IsS46 w0 _ g s0_0 s0_1 s0_2 from by exact HI0.out)) : g ≠ gb232));have n7_:=Aside0.mk ((by rw [hg];exact Nat.ne_of_gt (IsS46.lt (show IsS46 w0 _ g s0_0 s0_1 s0_2 from by exact HI0.out)) : gb232 ≠ g));clear HI0;clear HK;clear HB;have HI0:=n0_;have HK:=n1_;have HB:=n2_;have BK232:=n3_;have GW232:=n4_;have GE232:=n5_;have NB0_232:=n6_;have NB232_0:=n7_;clear n0_ n1_ n2_ n3_ n4_ n5_ n6_ n7_;clear hb hbox hg) | ((with_reducible refine gate_callee (f:=35) rfl ?_);refine goesL_ (some 5) rfl rfl Try.func35 (by kernel_rfl) rfl #[.pointer (some ⟨g,0,none⟩)] rfl (by (try simp only [List.map_toArray,List.map_cons,List.map_nil]);rfl) ?_;(with_reducible refine (spec_l1Cur_container.calls k g s0_0 s0_1 s0_2 t233 t234 t235 t236 t237 t238 t239 w0 _ ?side1 ?side2 A2.out).mono ?_);(case side1 => exact HI0.out);(case side2 => exact HB.out);rintro e w36 ⟨rfl,hi,hb,hk⟩;refine ⟨_,rfl, ?_⟩;have n0_:=Aside0.mk (KeepBut.blk hk (g':=gb232) (o := .cells #[.string (⟨#[]⟩ : ByteArray), .int .i64 0, .int .i64 0, .int .i64 0, .int .i64 0] 33 (0,0)) (by exact BK232.out) NB232_0.out (by simp));have n1_:=Aside0.mk (KeepBut.trans (by exact HK.out) hk (.inl rfl));have n2_:=Aside0.mk (hb);have n3_:=Aside0.mk (hi);clear BK232;clear HK;clear HB;clear HI0;have BK232:=n0_;have HK:=n1_;have HB:=n2_;have HI0:=n3_;clear n0_ n1_ n2_ n3_;(try clear hb);(try clear hk);(try clear hi)) | ((with_reducible refine gate_dst (N:=3) rfl ?_);refine box_event ?hg (N:=3) ?hd (cs:=#[.string (⟨#[]⟩ : ByteArray), .int .i64 0, .int .i64 0, .int .i64 0, .int .i64 0]) (t:=33) ?hr ?_;(case hd => rfl);(case hg => rfl);(case hr => (go_simp;done));intro gb240 hg w37 hbox hb;have n0_:=Aside0.mk (IsS46.below (by exact HI0.out) hb);have n1_:=Aside0.mk (blk_below (g:=gb232) (o := .cells #[.string (⟨#[]⟩ : ByteArray), .int .i64 0, .int .i64 0, .int .i64 0, .int .i64 0] 33 (0,0)) (by exact BK232.out) hb);have n2_:=Aside0.mk (KeepBut.trans (by exact HK.out) (KeepBut.of_below hb g none) (.inl rfl));have n3_:=Aside0.mk (below_step (by exact HB.out) hb);have n4_:=Aside0.mk (hbox);have n5_:=Aside0.mk ((by rw [hg];exact (keep_size (w:=w) (g:=g) (row:=none) (by exact HK.out)) : w.heap.size ≤ gb240));have n6_:=Aside0.mk ((Nat.le_trans HW0.out (by rw [hg];exact (keep_size (w:=w) (g:=g) (row:=none) (by exact HK.out)) : w.heap.size ≤ gb240) : w0.heap.size ≤ gb240));have n7_:=Aside0.mk ((by rw [hg];exact Nat.ne_of_lt (blk_lt (g:=gb232) (o := .cells #[.string (⟨#[]⟩ : ByteArray), .int .i64 0, .int .i64 0, .int .i64 0, .int .i64 0] 33 (0,0)) (by exact BK232.out)) : gb232 ≠ gb240));have n8_:=Aside0.mk ((by rw [hg];exact Nat.ne_of_gt (blk_lt (g:=gb232) (o := .cells #[.string (⟨#[]⟩ : ByteArray), .int .i64 0, .int .i64 0, .int .i64 0, .int .i64 0] 33 (0,0)) (by exact BK232.out)) : gb240 ≠ gb232));have n9_:=Aside0.mk ((by rw [hg];exact Nat.ne_of_lt (IsS46.lt (show IsS46 w0 _ g s0_0 t238 t239 from by exact HI0.out)) : g ≠ gb240));have n10_:=Aside0.mk ((by rw [hg];exact Nat.ne_of_gt (IsS46.lt (show IsS46 w0 _ g s0_0 t238 t239 from by exact HI0.out)) : gb240 ≠ g));clear HI0;clear BK232;clear HK;clear HB;have HI0:=n0_;have BK232:=n1_;have HK:=n2_;have HB:=n3_;have BK240:=n4_;have GW240:=n5_;have GE240:=n6_;have NB232_240:=n7_;have NB240_232:=n8_;have NB0_240:=n9_;have NB240_0:=n10_;clear n0_ n1_ n2_ n3_ n4_ n5_ n6_ n7_ n8_ n9_ n10_;clear hb hbox hg;have hnb38:=NB240_232.out;have hnc38:=NB232_240.out;have hnb39:=NB240_0.out;have hnc39:=NB0_240.out;have hcz40_0 : w37.cell? ⟨gb240,0,none⟩ = some (.string (⟨#[]⟩ : ByteArray)):=(blk_cell BK240.out 0).trans rfl;have hcz40_1 : w37.cell? ⟨gb240,1,none⟩ = some (.int .i64 0):=(blk_cell BK240.out 1).trans rfl;have hcz40_2 : w37.cell? ⟨gb240,2,none⟩ = some (.int .i64 0):=(blk_cell BK240.out 2).trans rfl;have hcz40_3 : w37.cell? ⟨gb240,3,none⟩ = some (.int .i64 0):=(blk_cell BK240.out 3).trans rfl;have hcz40_4 : w37.cell? ⟨gb240,4,none⟩ = some (.int .i64 0):=(blk_cell BK240.out 4).trans rfl;have hfz40_0:=blk_frozen BK240.out 0;have hfz40_1:=blk_frozen BK240.out 1;have hfz40_2:=blk_frozen BK240.out 2;have hfz40_3:=blk_frozen BK240.out 3;have hfz40_4:=blk_frozen BK240.out 4) | ((with_reducible refine gate_callee (f:=21) rfl ?_);refine goesL_ (some 7) rfl rfl Try.func21 (by kernel_rfl) rfl #[.pointer (some ⟨g,0,none⟩), .int .i64 24] rfl (by (try simp only [List.map_toArray,List.map_cons,List.map_nil]);rfl) ?_;(with_reducible refine (spec_l1Cur_pick.calls g s0_0 t238 t239 24 t241 t242 t243 w0 _ ?side1 ?side2 A3.out).mono ?_);(case side1 => repeat ((with_reducible first | exact HI0.out | refine IsS46.far ?_ NB0_240.out _)));(case side2 => repeat ((with_reducible first | exact HB.out | refine below_set ?_ GE240.out)));rintro e w41 ⟨rfl,hi,hb,hk⟩;refine ⟨_,rfl, ?_⟩;have n0_:=Aside0.mk (KeepBut.blk hk (g':=gb232) (o := .cells #[.string (⟨#[]⟩ : ByteArray), .int .i64 0, .int .i64 0, .int .i64 0, .int .i64 0] 33 (0,0)) (by refine blk_far ?_ NB232_240.out _;refine blk_far ?_ NB232_240.out _;refine blk_far ?_ NB232_240.out _;refine blk_far ?_ NB232_240.out _;refine blk_far ?_ NB232_240.out _;exact BK232.out) NB232_0.out (by simp));have n1_:=Aside0.mk (KeepBut.blk hk (g':=gb240) (o := .cells #[.string t233, .int .i64 t234, .int .i64 t235, .int .i64 t236, .int .i64 t237] 33 (0,0)) (by refine blk_put (cs:=#[.string t233, .int .i64 t234, .int .i64 t235, .int .i64 t236, .int .i64 0]) ?_ 4 _ rfl;refine blk_put (cs:=#[.string t233, .int .i64 t234, .int .i64 t235, .int .i64 0, .int .i64 0]) ?_ 3 _ rfl;refine blk_put (cs:=#[.string t233, .int .i64 t234, .int .i64 0, .int .i64 0, .int .i64 0]) ?_ 2 _ rfl;refine blk_put (cs:=#[.string t233, .int .i64 0, .int .i64 0, .int .i64 0, .int .i64 0]) ?_ 1 _ rfl;refine blk_put (cs:=#[.string (⟨#[]⟩ : ByteArray), .int .i64 0, .int .i64 0, .int .i64 0, .int .i64 0]) ?_ 0 _ rfl;exact BK240.out) NB240_0.out (by simp));have n2_:=Aside0.mk (KeepBut.trans (by repeat ((with_reducible first | exact HK.out | refine keep_far ?_ GW240.out _))) hk (.inl rfl));have n3_:=Aside0.mk (hb);have n4_:=Aside0.mk (hi);clear BK232;clear BK240;clear HK;clear HB;clear HI0;have BK232:=n0_;have BK240:=n1_;have HK:=n2_;have HB:=n3_;have HI0:=n4_;clear n0_ n1_ n2_ n3_ n4_;(try clear hb);(try clear hk);(try clear hi)) | ((with_reducible refine gate_dst (N:=22) rfl ?_);refine Kd.R_lit (Kd.int .i64) _ 3 ?hg (N:=22) ?hd (xs:=([0,32001,32000,1] : List Int)) (inner := [.int .i64 0, .int .i64 32001, .int .i64 32000, .int .i64 1]) (ok:=fun _ => True) (okp:=fun _ => True) ?hr ?hp (fun _ hk => hk) trivial (Below.refl _ _) (Nat.le_refl _) (by simp) ?_;(case hd => rfl);(case hg => rfl);(case hr => (go_simp;done));(case hp => exact (Reps.one (show Kd.M (Kd.int .i64) _ _ _ 0 [.int .i64 0] from rfl) (Reps.one (show Kd.M (Kd.int .i64) _ _ _ 32001 [.int .i64 32001] from rfl) (Reps.one (show Kd.M (Kd.int .i64) _ _ _ 32000 [.int .i64 32000] from rfl) (Reps.one (show Kd.M (Kd.int .i64) _ _ _ 1 [.int .i64 1] from rfl) (Reps.none _ _))))));intro v254 w42 ho43 hb hg_ hnew_;clear hg_ hnew_;(rw [← Ny253.out] at ho43);have n0_:=Aside0.mk (Kd.R_lower ho43 (keep_size (w:=w) (g:=g) (row:=none) (by exact HK.out)));have n1_:=Aside0.mk (IsS46.below (by exact HI0.out) hb);have n2_:=Aside0.mk (blk_below (g:=gb232) (o := .cells #[.string (⟨#[]⟩ : ByteArray), .int .i64 0, .int .i64 0, .int .i64 0, .int .i64 0] 33 (0,0)) (by exact BK232.out) hb);have n3_:=Aside0.mk (blk_below (g:=gb240) (o := .cells #[.string t233, .int .i64 t234, .int .i64 t235, .int .i64 t236, .int .i64 t237] 33 (0,0)) (by exact BK240.out) hb);have n4_:=Aside0.mk (KeepBut.trans (by exact HK.out) (KeepBut.of_below hb g none) (.inl rfl));have n5_:=Aside0.mk (below_step (by exact HB.out) hb);clear HI0;clear BK232;clear BK240;clear HK;clear HB;have HO255:=n0_;have HI0:=n1_;have BK232:=n2_;have BK240:=n3_;have HK:=n4_;have HB:=n5_;clear n0_ n1_ n2_ n3_ n4_ n5_;clear hb ho43;obtain ⟨Ao44,co44,eo44⟩ := Kd.R_slice HO255.out;subst eo44) | ((with_reducible refine gate_callee (f:=34) rfl ?_);refine goesL_ (some 23) rfl rfl Try.func34 (by kernel_rfl) rfl #[.pointer (some ⟨g,0,none⟩), .slice Ao44 y253.length co44] rfl (by (try simp only [List.map_toArray,List.map_cons,List.map_nil]);rfl) ?_;(with_reducible refine (spec_l1Cur_among.calls g s0_0 t242 t243 _ _ y253 t256 t257 t258 w0 _ ?side1 ?side2 ?side3 ?side4 ?side5 A34.out).mono ?_);(case side1 => exact HI0.out);(case side2 => exact HB.out);(case side3 => repeat (exact (Kd.R_reads' HO255.out).2.2));(case side4 => exact (Kd.R_reads' HO255.out).2.1);(case side5 => exact far_slice (IsS46.own_ne HI0.out HO255.out (by decide)));rintro e w45 ⟨rfl,hi,hb,hk⟩;refine ⟨_,rfl, ?_⟩;have n0_:=Aside0.mk (KeepBut.blk hk (g':=gb232) (o := .cells #[.string (⟨#[]⟩ : ByteArray), .int .i64 0, .int .i64 0, .int .i64 0, .int .i64 0] 33 (0,0)) (by exact BK232.out) NB232_0.out (by simp));have n1_:=Aside0.mk (KeepBut.blk hk (g':=gb240) (o := .cells #[.string t233, .int .i64 t234, .int .i64 t235, .int .i64 t236, .int .i64 t237] 33 (0,0)) (by exact BK240.out) NB240_0.out (by simp));have n2_:=Aside0.mk (Kd.R_mono (Kd.R_keep (IsS46.apart (show IsS46 w0 _ g s0_0 t242 t243 from by exact HI0.out) (by exact HO255.out) (by decide)) hk (fun _ h => h.2)) (fun _ h => h.1));have n3_:=Aside0.mk (KeepBut.trans (by exact HK.out) hk (.inl rfl));have n4_:=Aside0.mk (hb);have n5_:=Aside0.mk (hi);clear BK232;clear BK240;clear HO255;clear HK;clear HB;clear HI0;have BK232:=n0_;have BK240:=n1_;have HO255:=n2_;have HK:=n3_;have HB:=n4_;have HI0:=n5_;clear n0_ n1_ n2_ n3_ n4_ n5_;(try clear hb);(try clear hk);(try clear hi);have hcz46_0 : w45.cell? ⟨gb240,0,none⟩ = some (.string t233):=(blk_cell BK240.out 0).trans rfl;have hcz46_1 : w45.cell? ⟨gb240,1,none⟩ = some (.int .i64 t234):=(blk_cell BK240.out 1).trans rfl;have hcz46_2 : w45.cell? ⟨gb240,2,none⟩ = some (.int .i64 t235):=(blk_cell BK240.out 2).trans rfl;have hcz46_3 : w45.cell? ⟨gb240,3,none⟩ = some (.int .i64 t236):=(blk_cell BK240.out 3).trans rfl;have hcz46_4 : w45.cell? ⟨gb240,4,none⟩ = some (.int .i64 t237):=(blk_cell BK240.out 4).trans rfl;have hfz46_0:=blk_frozen BK240.out 0;have hfz46_1:=blk_frozen BK240.out 1;have hfz46_2:=blk_frozen BK240.out 2;have hfz46_3:=blk_frozen BK240.out 3;have hfz46_4:=blk_frozen BK240.out 4;have hnb47:=NB232_0.out;have hnc47:=NB0_232.out;have hcz48_0 : w45.cell? ⟨gb232,0,none⟩ = some (.string (⟨#[]⟩ : ByteArray)):=(blk_cell BK232.out 0).trans rfl;have hcz48_1 : w45.cell? ⟨gb232,1,none⟩ = some (.int .i64 0):=(blk_cell BK232.out 1).trans rfl;have hcz48_2 : w45.cell? ⟨gb232,2,none⟩ = some (.int .i64 0):=(blk_cell BK232.out 2).trans rfl;have hcz48_3 : w45.cell? ⟨gb232,3,none⟩ = some (.int .i64 0):=(blk_cell BK232.out 3).trans rfl;have hcz48_4 : w45.cell? ⟨gb232,4,none⟩ = some (.int .i64 0):=(blk_cell BK232.out 4).trans rfl;have hfz48_0:=blk_frozen BK232.out 0;have hfz48_1:=blk_frozen BK232.out 1;have hfz48_2:=blk_frozen BK232.out 2;have hfz48_3:=blk_frozen BK232.out 3;have hfz48_4:=blk_frozen BK232.out 4))
    refine bodyPost_ret (results_cell_row rfl _ _ gb232 33 #[.string t233, .int .i64 t234, .int .i64 t256, .int .i64 t236, .int .i64 t237] (0,0) _ rfl (by refine blk_put (cs:=#[.string t233, .int .i64 t234, .int .i64 t256, .int .i64 t236, .int .i64 0]) ?_ 4 _ rfl;refine blk_put (cs:=#[.string t233, .int .i64 t234, .int .i64 t256, .int .i64 0, .int .i64 0]) ?_ 3 _ rfl;refine blk_put (cs:=#[.string t233, .int .i64 t234, .int .i64 0, .int .i64 0, .int .i64 0]) ?_ 2 _ rfl;refine blk_put (cs:=#[.string t233, .int .i64 0, .int .i64 0, .int .i64 0, .int .i64 0]) ?_ 1 _ rfl;refine blk_put (cs:=#[.string (⟨#[]⟩ : ByteArray), .int .i64 0, .int .i64 0, .int .i64 0, .int .i64 0]) ?_ 0 _ rfl;refine blk_far ?_ NB232_240.out _;exact BK232.out) Try.underlying33 rfl (by kernel_rfl)) rfl ?_
    exact ⟨by rfl,by repeat ((with_reducible first | exact HI0.out | refine IsS46.far ?_ NB0_232.out _ | refine IsS46.far ?_ NB0_240.out _)),by repeat ((with_reducible first | exact HB.out | refine below_set ?_ GE232.out | refine below_set ?_ GE240.out)),by repeat ((with_reducible first | exact HK.out | refine keep_far ?_ GW232.out _ | refine keep_far ?_ GW240.out _))⟩
   ·rw [if_neg c33] at H
    have c33b0 : (t241 == 2) = false:=beq_eq_false_iff_ne.mpr c33
    have c33b1 : (t241 != 2) = true:=bne_iff_ne.mpr c33
    by_cases c49 : t241 = 3
    ·rw [if_pos c49] at H
     have c49b0 : (t241 == 3) = true:=beq_iff_eq.mpr c49
     have c49b1 : (t241 != 3) = false:=bne_eq_false_iff_eq.mpr c49
     clear c49
     obtain ⟨y259,hy259⟩ : ∃ y_ : List Int,y_ = (([0,4,3] : List Int)):=⟨_,rfl⟩
     replace H : ((spec_l1Cur_among.f s0_0 t242 t243 y259).bind fun bt262 => (some (t233,t234,t235,bt262.1,t237,bt262.2.1,bt262.2.2))) = some (r1,r2,r3,r4,r5,r6,r7):=by (rw [hy259];with_reducible exact H)
     have Ny259:=Aside0.mk hy259
     clear hy259
     replace H:=Option.bind_eq_some_iff.mp H
     obtain ⟨⟨t262,t263,t264⟩,A500,H⟩ := H
     replace H : (some (t233,t234,t235,t262,t237,t263,t264)) = some (r1,r2,r3,r4,r5,r6,r7):=H
     have A50:=Aside0.mk A500
     clear A500
     simp only [Option.some.injEq,Prod.mk.injEq] at H
     obtain ⟨rfl,rfl,rfl,rfl,rfl,rfl,rfl⟩ := H
     go_enter Try.func36,Try.ntmps36
     go_wp2_with (first | ((with_reducible refine gate_dst (N:=2) rfl ?_);refine box_event ?hg (N:=2) ?hd (cs:=#[.string (⟨#[]⟩ : ByteArray), .int .i64 0, .int .i64 0, .int .i64 0, .int .i64 0]) (t:=33) ?hr ?_;(case hd => rfl);(case hg => rfl);(case hr => (go_simp;done));intro gb232 hg w51 hbox hb;have n0_:=Aside0.mk (IsS46.below (by exact HI0.out) hb);have n1_:=Aside0.mk (KeepBut.trans (by exact HK.out) (KeepBut.of_below hb g none) (.inl rfl));have n2_:=Aside0.mk (below_step (by exact HB.out) hb);have n3_:=Aside0.mk (hbox);have n4_:=Aside0.mk ((by rw [hg];exact (keep_size (w:=w) (g:=g) (row:=none) (by exact HK.out)) : w.heap.size ≤ gb232));have n5_:=Aside0.mk ((Nat.le_trans HW0.out (by rw [hg];exact (keep_size (w:=w) (g:=g) (row:=none) (by exact HK.out)) : w.heap.size ≤ gb232) : w0.heap.size ≤ gb232));have n6_:=Aside0.mk ((by rw [hg];exact Nat.ne_of_lt (IsS46.lt (show IsS46 w0 _ g s0_0 s0_1 s0_2 from by exact HI0.out)) : g ≠ gb232));have n7_:=Aside0.mk ((by rw [hg];exact Nat.ne_of_gt (IsS46.lt (show IsS46 w0 _ g s0_0 s0_1 s0_2 from by exact HI0.out)) : gb232 ≠ g));clear HI0;clear HK;clear HB;have HI0:=n0_;have HK:=n1_;have HB:=n2_;have BK232:=n3_;have GW232:=n4_;have GE232:=n5_;have NB0_232:=n6_;have NB232_0:=n7_;clear n0_ n1_ n2_ n3_ n4_ n5_ n6_ n7_;clear hb hbox hg) | ((with_reducible refine gate_callee (f:=35) rfl ?_);refine goesL_ (some 5) rfl rfl Try.func35 (by kernel_rfl) rfl #[.pointer (some ⟨g,0,none⟩)] rfl (by (try simp only [List.map_toArray,List.map_cons,List.map_nil]);rfl) ?_;(with_reducible refine (spec_l1Cur_container.calls k g s0_0 s0_1 s0_2 t233 t234 t235 t236 t237 t238 t239 w0 _ ?side1 ?side2 A2.out).mono ?_);(case side1 => exact HI0.out);(case side2 => exact HB.out);rintro e w52 ⟨rfl,hi,hb,hk⟩;refine ⟨_,rfl, ?_⟩;have n0_:=Aside0.mk (KeepBut.blk hk (g':=gb232) (o := .cells #[.string (⟨#[]⟩ : ByteArray), .int .i64 0, .int .i64 0, .int .i64 0, .int .i64 0] 33 (0,0)) (by exact BK232.out) NB232_0.out (by simp));have n1_:=Aside0.mk (KeepBut.trans (by exact HK.out) hk (.inl rfl));have n2_:=Aside0.mk (hb);have n3_:=Aside0.mk (hi);clear BK232;clear HK;clear HB;clear HI0;have BK232:=n0_;have HK:=n1_;have HB:=n2_;have HI0:=n3_;clear n0_ n1_ n2_ n3_;(try clear hb);(try clear hk);(try clear hi)) | ((with_reducible refine gate_dst (N:=3) rfl ?_);refine box_event ?hg (N:=3) ?hd (cs:=#[.string (⟨#[]⟩ : ByteArray), .int .i64 0, .int .i64 0, .int .i64 0, .int .i64 0]) (t:=33) ?hr ?_;(case hd => rfl);(case hg => rfl);(case hr => (go_simp;done));intro gb240 hg w53 hbox hb;have n0_:=Aside0.mk (IsS46.below (by exact HI0.out) hb);have n1_:=Aside0.mk (blk_below (g:=gb232) (o := .cells #[.string (⟨#[]⟩ : ByteArray), .int .i64 0, .int .i64 0, .int .i64 0, .int .i64 0] 33 (0,0)) (by exact BK232.out) hb);have n2_:=Aside0.mk (KeepBut.trans (by exact HK.out) (KeepBut.of_below hb g none) (.inl rfl));have n3_:=Aside0.mk (below_step (by exact HB.out) hb);have n4_:=Aside0.mk (hbox);have n5_:=Aside0.mk ((by rw [hg];exact (keep_size (w:=w) (g:=g) (row:=none) (by exact HK.out)) : w.heap.size ≤ gb240));have n6_:=Aside0.mk ((Nat.le_trans HW0.out (by rw [hg];exact (keep_size (w:=w) (g:=g) (row:=none) (by exact HK.out)) : w.heap.size ≤ gb240) : w0.heap.size ≤ gb240));have n7_:=Aside0.mk ((by rw [hg];exact Nat.ne_of_lt (blk_lt (g:=gb232) (o := .cells #[.string (⟨#[]⟩ : ByteArray), .int .i64 0, .int .i64 0, .int .i64 0, .int .i64 0] 33 (0,0)) (by exact BK232.out)) : gb232 ≠ gb240));have n8_:=Aside0.mk ((by rw [hg];exact Nat.ne_of_gt (blk_lt (g:=gb232) (o := .cells #[.string (⟨#[]⟩ : ByteArray), .int .i64 0, .int .i64 0, .int .i64 0, .int .i64 0] 33 (0,0)) (by exact BK232.out)) : gb240 ≠ gb232));have n9_:=Aside0.mk ((by rw [hg];exact Nat.ne_of_lt (IsS46.lt (show IsS46 w0 _ g s0_0 t238 t239 from by exact HI0.out)) : g ≠ gb240));have n10_:=Aside0.mk ((by rw [hg];exact Nat.ne_of_gt (IsS46.lt (show IsS46 w0 _ g s0_0 t238 t239 from by exact HI0.out)) : gb240 ≠ g));clear HI0;clear BK232;clear HK;clear HB;have HI0:=n0_;have BK232:=n1_;have HK:=n2_;have HB:=n3_;have BK240:=n4_;have GW240:=n5_;have GE240:=n6_;have NB232_240:=n7_;have NB240_232:=n8_;have NB0_240:=n9_;have NB240_0:=n10_;clear n0_ n1_ n2_ n3_ n4_ n5_ n6_ n7_ n8_ n9_ n10_;clear hb hbox hg;have hnb54:=NB240_232.out;have hnc54:=NB232_240.out;have hnb55:=NB240_0.out;have hnc55:=NB0_240.out;have hcz56_0 : w53.cell? ⟨gb240,0,none⟩ = some (.string (⟨#[]⟩ : ByteArray)):=(blk_cell BK240.out 0).trans rfl;have hcz56_1 : w53.cell? ⟨gb240,1,none⟩ = some (.int .i64 0):=(blk_cell BK240.out 1).trans rfl;have hcz56_2 : w53.cell? ⟨gb240,2,none⟩ = some (.int .i64 0):=(blk_cell BK240.out 2).trans rfl;have hcz56_3 : w53.cell? ⟨gb240,3,none⟩ = some (.int .i64 0):=(blk_cell BK240.out 3).trans rfl;have hcz56_4 : w53.cell? ⟨gb240,4,none⟩ = some (.int .i64 0):=(blk_cell BK240.out 4).trans rfl;have hfz56_0:=blk_frozen BK240.out 0;have hfz56_1:=blk_frozen BK240.out 1;have hfz56_2:=blk_frozen BK240.out 2;have hfz56_3:=blk_frozen BK240.out 3;have hfz56_4:=blk_frozen BK240.out 4) | ((with_reducible refine gate_callee (f:=21) rfl ?_);refine goesL_ (some 7) rfl rfl Try.func21 (by kernel_rfl) rfl #[.pointer (some ⟨g,0,none⟩), .int .i64 24] rfl (by (try simp only [List.map_toArray,List.map_cons,List.map_nil]);rfl) ?_;(with_reducible refine (spec_l1Cur_pick.calls g s0_0 t238 t239 24 t241 t242 t243 w0 _ ?side1 ?side2 A3.out).mono ?_);(case side1 => repeat ((with_reducible first | exact HI0.out | refine IsS46.far ?_ NB0_240.out _)));(case side2 => repeat ((with_reducible first | exact HB.out | refine below_set ?_ GE240.out)));rintro e w57 ⟨rfl,hi,hb,hk⟩;refine ⟨_,rfl, ?_⟩;have n0_:=Aside0.mk (KeepBut.blk hk (g':=gb232) (o := .cells #[.string (⟨#[]⟩ : ByteArray), .int .i64 0, .int .i64 0, .int .i64 0, .int .i64 0] 33 (0,0)) (by refine blk_far ?_ NB232_240.out _;refine blk_far ?_ NB232_240.out _;refine blk_far ?_ NB232_240.out _;refine blk_far ?_ NB232_240.out _;refine blk_far ?_ NB232_240.out _;exact BK232.out) NB232_0.out (by simp));have n1_:=Aside0.mk (KeepBut.blk hk (g':=gb240) (o := .cells #[.string t233, .int .i64 t234, .int .i64 t235, .int .i64 t236, .int .i64 t237] 33 (0,0)) (by refine blk_put (cs:=#[.string t233, .int .i64 t234, .int .i64 t235, .int .i64 t236, .int .i64 0]) ?_ 4 _ rfl;refine blk_put (cs:=#[.string t233, .int .i64 t234, .int .i64 t235, .int .i64 0, .int .i64 0]) ?_ 3 _ rfl;refine blk_put (cs:=#[.string t233, .int .i64 t234, .int .i64 0, .int .i64 0, .int .i64 0]) ?_ 2 _ rfl;refine blk_put (cs:=#[.string t233, .int .i64 0, .int .i64 0, .int .i64 0, .int .i64 0]) ?_ 1 _ rfl;refine blk_put (cs:=#[.string (⟨#[]⟩ : ByteArray), .int .i64 0, .int .i64 0, .int .i64 0, .int .i64 0]) ?_ 0 _ rfl;exact BK240.out) NB240_0.out (by simp));have n2_:=Aside0.mk (KeepBut.trans (by repeat ((with_reducible first | exact HK.out | refine keep_far ?_ GW240.out _))) hk (.inl rfl));have n3_:=Aside0.mk (hb);have n4_:=Aside0.mk (hi);clear BK232;clear BK240;clear HK;clear HB;clear HI0;have BK232:=n0_;have BK240:=n1_;have HK:=n2_;have HB:=n3_;have HI0:=n4_;clear n0_ n1_ n2_ n3_ n4_;(try clear hb);(try clear hk);(try clear hi)) | ((with_reducible refine gate_dst (N:=28) rfl ?_);refine Kd.R_lit (Kd.int .i64) _ 3 ?hg (N:=28) ?hd (xs:=([0,4,3] : List Int)) (inner := [.int .i64 0, .int .i64 4, .int .i64 3]) (ok:=fun _ => True) (okp:=fun _ => True) ?hr ?hp (fun _ hk => hk) trivial (Below.refl _ _) (Nat.le_refl _) (by simp) ?_;(case hd => rfl);(case hg => rfl);(case hr => (go_simp;done));(case hp => exact (Reps.one (show Kd.M (Kd.int .i64) _ _ _ 0 [.int .i64 0] from rfl) (Reps.one (show Kd.M (Kd.int .i64) _ _ _ 4 [.int .i64 4] from rfl) (Reps.one (show Kd.M (Kd.int .i64) _ _ _ 3 [.int .i64 3] from rfl) (Reps.none _ _)))));intro v260 w58 ho59 hb hg_ hnew_;clear hg_ hnew_;(rw [← Ny259.out] at ho59);have n0_:=Aside0.mk (Kd.R_lower ho59 (keep_size (w:=w) (g:=g) (row:=none) (by exact HK.out)));have n1_:=Aside0.mk (IsS46.below (by exact HI0.out) hb);have n2_:=Aside0.mk (blk_below (g:=gb232) (o := .cells #[.string (⟨#[]⟩ : ByteArray), .int .i64 0, .int .i64 0, .int .i64 0, .int .i64 0] 33 (0,0)) (by exact BK232.out) hb);have n3_:=Aside0.mk (blk_below (g:=gb240) (o := .cells #[.string t233, .int .i64 t234, .int .i64 t235, .int .i64 t236, .int .i64 t237] 33 (0,0)) (by exact BK240.out) hb);have n4_:=Aside0.mk (KeepBut.trans (by exact HK.out) (KeepBut.of_below hb g none) (.inl rfl));have n5_:=Aside0.mk (below_step (by exact HB.out) hb);clear HI0;clear BK232;clear BK240;clear HK;clear HB;have HO261:=n0_;have HI0:=n1_;have BK232:=n2_;have BK240:=n3_;have HK:=n4_;have HB:=n5_;clear n0_ n1_ n2_ n3_ n4_ n5_;clear hb ho59;obtain ⟨Ao60,co60,eo60⟩ := Kd.R_slice HO261.out;subst eo60) | ((with_reducible refine gate_callee (f:=34) rfl ?_);refine goesL_ (some 29) rfl rfl Try.func34 (by kernel_rfl) rfl #[.pointer (some ⟨g,0,none⟩), .slice Ao60 y259.length co60] rfl (by (try simp only [List.map_toArray,List.map_cons,List.map_nil]);rfl) ?_;(with_reducible refine (spec_l1Cur_among.calls g s0_0 t242 t243 _ _ y259 t262 t263 t264 w0 _ ?side1 ?side2 ?side3 ?side4 ?side5 A50.out).mono ?_);(case side1 => exact HI0.out);(case side2 => exact HB.out);(case side3 => repeat (exact (Kd.R_reads' HO261.out).2.2));(case side4 => exact (Kd.R_reads' HO261.out).2.1);(case side5 => exact far_slice (IsS46.own_ne HI0.out HO261.out (by decide)));rintro e w61 ⟨rfl,hi,hb,hk⟩;refine ⟨_,rfl, ?_⟩;have n0_:=Aside0.mk (KeepBut.blk hk (g':=gb232) (o := .cells #[.string (⟨#[]⟩ : ByteArray), .int .i64 0, .int .i64 0, .int .i64 0, .int .i64 0] 33 (0,0)) (by exact BK232.out) NB232_0.out (by simp));have n1_:=Aside0.mk (KeepBut.blk hk (g':=gb240) (o := .cells #[.string t233, .int .i64 t234, .int .i64 t235, .int .i64 t236, .int .i64 t237] 33 (0,0)) (by exact BK240.out) NB240_0.out (by simp));have n2_:=Aside0.mk (Kd.R_mono (Kd.R_keep (IsS46.apart (show IsS46 w0 _ g s0_0 t242 t243 from by exact HI0.out) (by exact HO261.out) (by decide)) hk (fun _ h => h.2)) (fun _ h => h.1));have n3_:=Aside0.mk (KeepBut.trans (by exact HK.out) hk (.inl rfl));have n4_:=Aside0.mk (hb);have n5_:=Aside0.mk (hi);clear BK232;clear BK240;clear HO261;clear HK;clear HB;clear HI0;have BK232:=n0_;have BK240:=n1_;have HO261:=n2_;have HK:=n3_;have HB:=n4_;have HI0:=n5_;clear n0_ n1_ n2_ n3_ n4_ n5_;(try clear hb);(try clear hk);(try clear hi);have hcz62_0 : w61.cell? ⟨gb240,0,none⟩ = some (.string t233):=(blk_cell BK240.out 0).trans rfl;have hcz62_1 : w61.cell? ⟨gb240,1,none⟩ = some (.int .i64 t234):=(blk_cell BK240.out 1).trans rfl;have hcz62_2 : w61.cell? ⟨gb240,2,none⟩ = some (.int .i64 t235):=(blk_cell BK240.out 2).trans rfl;have hcz62_3 : w61.cell? ⟨gb240,3,none⟩ = some (.int .i64 t236):=(blk_cell BK240.out 3).trans rfl;have hcz62_4 : w61.cell? ⟨gb240,4,none⟩ = some (.int .i64 t237):=(blk_cell BK240.out 4).trans rfl;have hfz62_0:=blk_frozen BK240.out 0;have hfz62_1:=blk_frozen BK240.out 1;have hfz62_2:=blk_frozen BK240.out 2;have hfz62_3:=blk_frozen BK240.out 3;have hfz62_4:=blk_frozen BK240.out 4;have hnb63:=NB232_0.out;have hnc63:=NB0_232.out;have hcz64_0 : w61.cell? ⟨gb232,0,none⟩ = some (.string (⟨#[]⟩ : ByteArray)):=(blk_cell BK232.out 0).trans rfl;have hcz64_1 : w61.cell? ⟨gb232,1,none⟩ = some (.int .i64 0):=(blk_cell BK232.out 1).trans rfl;have hcz64_2 : w61.cell? ⟨gb232,2,none⟩ = some (.int .i64 0):=(blk_cell BK232.out 2).trans rfl;have hcz64_3 : w61.cell? ⟨gb232,3,none⟩ = some (.int .i64 0):=(blk_cell BK232.out 3).trans rfl;have hcz64_4 : w61.cell? ⟨gb232,4,none⟩ = some (.int .i64 0):=(blk_cell BK232.out 4).trans rfl;have hfz64_0:=blk_frozen BK232.out 0;have hfz64_1:=blk_frozen BK232.out 1;have hfz64_2:=blk_frozen BK232.out 2;have hfz64_3:=blk_frozen BK232.out 3;have hfz64_4:=blk_frozen BK232.out 4))
     refine bodyPost_ret (results_cell_row rfl _ _ gb232 33 #[.string t233, .int .i64 t234, .int .i64 t235, .int .i64 t262, .int .i64 t237] (0,0) _ rfl (by refine blk_put (cs:=#[.string t233, .int .i64 t234, .int .i64 t235, .int .i64 t262, .int .i64 0]) ?_ 4 _ rfl;refine blk_put (cs:=#[.string t233, .int .i64 t234, .int .i64 t235, .int .i64 0, .int .i64 0]) ?_ 3 _ rfl;refine blk_put (cs:=#[.string t233, .int .i64 t234, .int .i64 0, .int .i64 0, .int .i64 0]) ?_ 2 _ rfl;refine blk_put (cs:=#[.string t233, .int .i64 0, .int .i64 0, .int .i64 0, .int .i64 0]) ?_ 1 _ rfl;refine blk_put (cs:=#[.string (⟨#[]⟩ : ByteArray), .int .i64 0, .int .i64 0, .int .i64 0, .int .i64 0]) ?_ 0 _ rfl;refine blk_far ?_ NB232_240.out _;exact BK232.out) Try.underlying33 rfl (by kernel_rfl)) rfl ?_
     exact ⟨by rfl,by repeat ((with_reducible first | exact HI0.out | refine IsS46.far ?_ NB0_232.out _ | refine IsS46.far ?_ NB0_240.out _)),by repeat ((with_reducible first | exact HB.out | refine below_set ?_ GE232.out | refine below_set ?_ GE240.out)),by repeat ((with_reducible first | exact HK.out | refine keep_far ?_ GW232.out _ | refine keep_far ?_ GW240.out _))⟩
    ·rw [if_neg c49] at H
     have c49b0 : (t241 == 3) = false:=beq_eq_false_iff_ne.mpr c49
     have c49b1 : (t241 != 3) = true:=bne_iff_ne.mpr c49
     by_cases c65 : t241 = 4
     ·rw [if_pos c65] at H
      have c65b0 : (t241 == 4) = true:=beq_iff_eq.mpr c65
      have c65b1 : (t241 != 4) = false:=bne_eq_false_iff_eq.mpr c65
      clear c65
      obtain ⟨y265,hy265⟩ : ∃ y_ : List Int,y_ = (([0,10,9] : List Int)):=⟨_,rfl⟩
      replace H : ((spec_l1Cur_among.f s0_0 t242 t243 y265).bind fun bt268 => (some (t233,t234,t235,t236,bt268.1,bt268.2.1,bt268.2.2))) = some (r1,r2,r3,r4,r5,r6,r7):=by (rw [hy265];with_reducible exact H)
      have Ny265:=Aside0.mk hy265
      clear hy265
      replace H:=Option.bind_eq_some_iff.mp H
      obtain ⟨⟨t268,t269,t270⟩,A660,H⟩ := H
      replace H : (some (t233,t234,t235,t236,t268,t269,t270)) = some (r1,r2,r3,r4,r5,r6,r7):=H
      have A66:=Aside0.mk A660
      clear A660
      simp only [Option.some.injEq,Prod.mk.injEq] at H
      obtain ⟨rfl,rfl,rfl,rfl,rfl,rfl,rfl⟩ := H
      go_enter Try.func36,Try.ntmps36
      go_wp2_with (first | ((with_reducible refine gate_dst (N:=2) rfl ?_);refine box_event ?hg (N:=2) ?hd (cs:=#[.string (⟨#[]⟩ : ByteArray), .int .i64 0, .int .i64 0, .int .i64 0, .int .i64 0]) (t:=33) ?hr ?_;(case hd => rfl);(case hg => rfl);(case hr => (go_simp;done));intro gb232 hg w67 hbox hb;have n0_:=Aside0.mk (IsS46.below (by exact HI0.out) hb);have n1_:=Aside0.mk (KeepBut.trans (by exact HK.out) (KeepBut.of_below hb g none) (.inl rfl));have n2_:=Aside0.mk (below_step (by exact HB.out) hb);have n3_:=Aside0.mk (hbox);have n4_:=Aside0.mk ((by rw [hg];exact (keep_size (w:=w) (g:=g) (row:=none) (by exact HK.out)) : w.heap.size ≤ gb232));have n5_:=Aside0.mk ((Nat.le_trans HW0.out (by rw [hg];exact (keep_size (w:=w) (g:=g) (row:=none) (by exact HK.out)) : w.heap.size ≤ gb232) : w0.heap.size ≤ gb232));have n6_:=Aside0.mk ((by rw [hg];exact Nat.ne_of_lt (IsS46.lt (show IsS46 w0 _ g s0_0 s0_1 s0_2 from by exact HI0.out)) : g ≠ gb232));have n7_:=Aside0.mk ((by rw [hg];exact Nat.ne_of_gt (IsS46.lt (show IsS46 w0 _ g s0_0 s0_1 s0_2 from by exact HI0.out)) : gb232 ≠ g));clear HI0;clear HK;clear HB;have HI0:=n0_;have HK:=n1_;have HB:=n2_;have BK232:=n3_;have GW232:=n4_;have GE232:=n5_;have NB0_232:=n6_;have NB232_0:=n7_;clear n0_ n1_ n2_ n3_ n4_ n5_ n6_ n7_;clear hb hbox hg) | ((with_reducible refine gate_callee (f:=35) rfl ?_);refine goesL_ (some 5) rfl rfl Try.func35 (by kernel_rfl) rfl #[.pointer (some ⟨g,0,none⟩)] rfl (by (try simp only [List.map_toArray,List.map_cons,List.map_nil]);rfl) ?_;(with_reducible refine (spec_l1Cur_container.calls k g s0_0 s0_1 s0_2 t233 t234 t235 t236 t237 t238 t239 w0 _ ?side1 ?side2 A2.out).mono ?_);(case side1 => exact HI0.out);(case side2 => exact HB.out);rintro e w68 ⟨rfl,hi,hb,hk⟩;refine ⟨_,rfl, ?_⟩;have n0_:=Aside0.mk (KeepBut.blk hk (g':=gb232) (o := .cells #[.string (⟨#[]⟩ : ByteArray), .int .i64 0, .int .i64 0, .int .i64 0, .int .i64 0] 33 (0,0)) (by exact BK232.out) NB232_0.out (by simp));have n1_:=Aside0.mk (KeepBut.trans (by exact HK.out) hk (.inl rfl));have n2_:=Aside0.mk (hb);have n3_:=Aside0.mk (hi);clear BK232;clear HK;clear HB;clear HI0;have BK232:=n0_;have HK:=n1_;have HB:=n2_;have HI0:=n3_;clear n0_ n1_ n2_ n3_;(try clear hb);(try clear hk);(try clear hi)) | ((with_reducible refine gate_dst (N:=3) rfl ?_);refine box_event ?hg (N:=3) ?hd (cs:=#[.string (⟨#[]⟩ : ByteArray), .int .i64 0, .int .i64 0, .int .i64 0, .int .i64 0]) (t:=33) ?hr ?_;(case hd => rfl);(case hg => rfl);(case hr => (go_simp;done));intro gb240 hg w69 hbox hb;have n0_:=Aside0.mk (IsS46.below (by exact HI0.out) hb);have n1_:=Aside0.mk (blk_below (g:=gb232) (o := .cells #[.string (⟨#[]⟩ : ByteArray), .int .i64 0, .int .i64 0, .int .i64 0, .int .i64 0] 33 (0,0)) (by exact BK232.out) hb);have n2_:=Aside0.mk (KeepBut.trans (by exact HK.out) (KeepBut.of_below hb g none) (.inl rfl));have n3_:=Aside0.mk (below_step (by exact HB.out) hb);have n4_:=Aside0.mk (hbox);have n5_:=Aside0.mk ((by rw [hg];exact (keep_size (w:=w) (g:=g) (row:=none) (by exact HK.out)) : w.heap.size ≤ gb240));have n6_:=Aside0.mk ((Nat.le_trans HW0.out (by rw [hg];exact (keep_size (w:=w) (g:=g) (row:=none) (by exact HK.out)) : w.heap.size ≤ gb240) : w0.heap.size ≤ gb240));have n7_:=Aside0.mk ((by rw [hg];exact Nat.ne_of_lt (blk_lt (g:=gb232) (o := .cells #[.string (⟨#[]⟩ : ByteArray), .int .i64 0, .int .i64 0, .int .i64 0, .int .i64 0] 33 (0,0)) (by exact BK232.out)) : gb232 ≠ gb240));have n8_:=Aside0.mk ((by rw [hg];exact Nat.ne_of_gt (blk_lt (g:=gb232) (o := .cells #[.string (⟨#[]⟩ : ByteArray), .int .i64 0, .int .i64 0, .int .i64 0, .int .i64 0] 33 (0,0)) (by exact BK232.out)) : gb240 ≠ gb232));have n9_:=Aside0.mk ((by rw [hg];exact Nat.ne_of_lt (IsS46.lt (show IsS46 w0 _ g s0_0 t238 t239 from by exact HI0.out)) : g ≠ gb240));have n10_:=Aside0.mk ((by rw [hg];exact Nat.ne_of_gt (IsS46.lt (show IsS46 w0 _ g s0_0 t238 t239 from by exact HI0.out)) : gb240 ≠ g));clear HI0;clear BK232;clear HK;clear HB;have HI0:=n0_;have BK232:=n1_;have HK:=n2_;have HB:=n3_;have BK240:=n4_;have GW240:=n5_;have GE240:=n6_;have NB232_240:=n7_;have NB240_232:=n8_;have NB0_240:=n9_;have NB240_0:=n10_;clear n0_ n1_ n2_ n3_ n4_ n5_ n6_ n7_ n8_ n9_ n10_;clear hb hbox hg;have hnb70:=NB240_232.out;have hnc70:=NB232_240.out;have hnb71:=NB240_0.out;have hnc71:=NB0_240.out;have hcz72_0 : w69.cell? ⟨gb240,0,none⟩ = some (.string (⟨#[]⟩ : ByteArray)):=(blk_cell BK240.out 0).trans rfl;have hcz72_1 : w69.cell? ⟨gb240,1,none⟩ = some (.int .i64 0):=(blk_cell BK240.out 1).trans rfl;have hcz72_2 : w69.cell? ⟨gb240,2,none⟩ = some (.int .i64 0):=(blk_cell BK240.out 2).trans rfl;have hcz72_3 : w69.cell? ⟨gb240,3,none⟩ = some (.int .i64 0):=(blk_cell BK240.out 3).trans rfl;have hcz72_4 : w69.cell? ⟨gb240,4,none⟩ = some (.int .i64 0):=(blk_cell BK240.out 4).trans rfl;have hfz72_0:=blk_frozen BK240.out 0;have hfz72_1:=blk_frozen BK240.out 1;have hfz72_2:=blk_frozen BK240.out 2;have hfz72_3:=blk_frozen BK240.out 3;have hfz72_4:=blk_frozen BK240.out 4) | ((with_reducible refine gate_callee (f:=21) rfl ?_);refine goesL_ (some 7) rfl rfl Try.func21 (by kernel_rfl) rfl #[.pointer (some ⟨g,0,none⟩), .int .i64 24] rfl (by (try simp only [List.map_toArray,List.map_cons,List.map_nil]);rfl) ?_;(with_reducible refine (spec_l1Cur_pick.calls g s0_0 t238 t239 24 t241 t242 t243 w0 _ ?side1 ?side2 A3.out).mono ?_);(case side1 => repeat ((with_reducible first | exact HI0.out | refine IsS46.far ?_ NB0_240.out _)));(case side2 => repeat ((with_reducible first | exact HB.out | refine below_set ?_ GE240.out)));rintro e w73 ⟨rfl,hi,hb,hk⟩;refine ⟨_,rfl, ?_⟩;have n0_:=Aside0.mk (KeepBut.blk hk (g':=gb232) (o := .cells #[.string (⟨#[]⟩ : ByteArray), .int .i64 0, .int .i64 0, .int .i64 0, .int .i64 0] 33 (0,0)) (by refine blk_far ?_ NB232_240.out _;refine blk_far ?_ NB232_240.out _;refine blk_far ?_ NB232_240.out _;refine blk_far ?_ NB232_240.out _;refine blk_far ?_ NB232_240.out _;exact BK232.out) NB232_0.out (by simp));have n1_:=Aside0.mk (KeepBut.blk hk (g':=gb240) (o := .cells #[.string t233, .int .i64 t234, .int .i64 t235, .int .i64 t236, .int .i64 t237] 33 (0,0)) (by refine blk_put (cs:=#[.string t233, .int .i64 t234, .int .i64 t235, .int .i64 t236, .int .i64 0]) ?_ 4 _ rfl;refine blk_put (cs:=#[.string t233, .int .i64 t234, .int .i64 t235, .int .i64 0, .int .i64 0]) ?_ 3 _ rfl;refine blk_put (cs:=#[.string t233, .int .i64 t234, .int .i64 0, .int .i64 0, .int .i64 0]) ?_ 2 _ rfl;refine blk_put (cs:=#[.string t233, .int .i64 0, .int .i64 0, .int .i64 0, .int .i64 0]) ?_ 1 _ rfl;refine blk_put (cs:=#[.string (⟨#[]⟩ : ByteArray), .int .i64 0, .int .i64 0, .int .i64 0, .int .i64 0]) ?_ 0 _ rfl;exact BK240.out) NB240_0.out (by simp));have n2_:=Aside0.mk (KeepBut.trans (by repeat ((with_reducible first | exact HK.out | refine keep_far ?_ GW240.out _))) hk (.inl rfl));have n3_:=Aside0.mk (hb);have n4_:=Aside0.mk (hi);clear BK232;clear BK240;clear HK;clear HB;clear HI0;have BK232:=n0_;have BK240:=n1_;have HK:=n2_;have HB:=n3_;have HI0:=n4_;clear n0_ n1_ n2_ n3_ n4_;(try clear hb);(try clear hk);(try clear hi)) | ((with_reducible refine gate_dst (N:=34) rfl ?_);refine Kd.R_lit (Kd.int .i64) _ 3 ?hg (N:=34) ?hd (xs:=([0,10,9] : List Int)) (inner := [.int .i64 0, .int .i64 10, .int .i64 9]) (ok:=fun _ => True) (okp:=fun _ => True) ?hr ?hp (fun _ hk => hk) trivial (Below.refl _ _) (Nat.le_refl _) (by simp) ?_;(case hd => rfl);(case hg => rfl);(case hr => (go_simp;done));(case hp => exact (Reps.one (show Kd.M (Kd.int .i64) _ _ _ 0 [.int .i64 0] from rfl) (Reps.one (show Kd.M (Kd.int .i64) _ _ _ 10 [.int .i64 10] from rfl) (Reps.one (show Kd.M (Kd.int .i64) _ _ _ 9 [.int .i64 9] from rfl) (Reps.none _ _)))));intro v266 w74 ho75 hb hg_ hnew_;clear hg_ hnew_;(rw [← Ny265.out] at ho75);have n0_:=Aside0.mk (Kd.R_lower ho75 (keep_size (w:=w) (g:=g) (row:=none) (by exact HK.out)));have n1_:=Aside0.mk (IsS46.below (by exact HI0.out) hb);have n2_:=Aside0.mk (blk_below (g:=gb232) (o := .cells #[.string (⟨#[]⟩ : ByteArray), .int .i64 0, .int .i64 0, .int .i64 0, .int .i64 0] 33 (0,0)) (by exact BK232.out) hb);have n3_:=Aside0.mk (blk_below (g:=gb240) (o := .cells #[.string t233, .int .i64 t234, .int .i64 t235, .int .i64 t236, .int .i64 t237] 33 (0,0)) (by exact BK240.out) hb);have n4_:=Aside0.mk (KeepBut.trans (by exact HK.out) (KeepBut.of_below hb g none) (.inl rfl));have n5_:=Aside0.mk (below_step (by exact HB.out) hb);clear HI0;clear BK232;clear BK240;clear HK;clear HB;have HO267:=n0_;have HI0:=n1_;have BK232:=n2_;have BK240:=n3_;have HK:=n4_;have HB:=n5_;clear n0_ n1_ n2_ n3_ n4_ n5_;clear hb ho75;obtain ⟨Ao76,co76,eo76⟩ := Kd.R_slice HO267.out;subst eo76) | ((with_reducible refine gate_callee (f:=34) rfl ?_);refine goesL_ (some 35) rfl rfl Try.func34 (by kernel_rfl) rfl #[.pointer (some ⟨g,0,none⟩), .slice Ao76 y265.length co76] rfl (by (try simp only [List.map_toArray,List.map_cons,List.map_nil]);rfl) ?_;(with_reducible refine (spec_l1Cur_among.calls g s0_0 t242 t243 _ _ y265 t268 t269 t270 w0 _ ?side1 ?side2 ?side3 ?side4 ?side5 A66.out).mono ?_);(case side1 => exact HI0.out);(case side2 => exact HB.out);(case side3 => repeat (exact (Kd.R_reads' HO267.out).2.2));(case side4 => exact (Kd.R_reads' HO267.out).2.1);(case side5 => exact far_slice (IsS46.own_ne HI0.out HO267.out (by decide)));rintro e w77 ⟨rfl,hi,hb,hk⟩;refine ⟨_,rfl, ?_⟩;have n0_:=Aside0.mk (KeepBut.blk hk (g':=gb232) (o := .cells #[.string (⟨#[]⟩ : ByteArray), .int .i64 0, .int .i64 0, .int .i64 0, .int .i64 0] 33 (0,0)) (by exact BK232.out) NB232_0.out (by simp));have n1_:=Aside0.mk (KeepBut.blk hk (g':=gb240) (o := .cells #[.string t233, .int .i64 t234, .int .i64 t235, .int .i64 t236, .int .i64 t237] 33 (0,0)) (by exact BK240.out) NB240_0.out (by simp));have n2_:=Aside0.mk (Kd.R_mono (Kd.R_keep (IsS46.apart (show IsS46 w0 _ g s0_0 t242 t243 from by exact HI0.out) (by exact HO267.out) (by decide)) hk (fun _ h => h.2)) (fun _ h => h.1));have n3_:=Aside0.mk (KeepBut.trans (by exact HK.out) hk (.inl rfl));have n4_:=Aside0.mk (hb);have n5_:=Aside0.mk (hi);clear BK232;clear BK240;clear HO267;clear HK;clear HB;clear HI0;have BK232:=n0_;have BK240:=n1_;have HO267:=n2_;have HK:=n3_;have HB:=n4_;have HI0:=n5_;clear n0_ n1_ n2_ n3_ n4_ n5_;(try clear hb);(try clear hk);(try clear hi);have hcz78_0 : w77.cell? ⟨gb240,0,none⟩ = some (.string t233):=(blk_cell BK240.out 0).trans rfl;have hcz78_1 : w77.cell? ⟨gb240,1,none⟩ = some (.int .i64 t234):=(blk_cell BK240.out 1).trans rfl;have hcz78_2 : w77.cell? ⟨gb240,2,none⟩ = some (.int .i64 t235):=(blk_cell BK240.out 2).trans rfl;have hcz78_3 : w77.cell? ⟨gb240,3,none⟩ = some (.int .i64 t236):=(blk_cell BK240.out 3).trans rfl;have hcz78_4 : w77.cell? ⟨gb240,4,none⟩ = some (.int .i64 t237):=(blk_cell BK240.out 4).trans rfl;have hfz78_0:=blk_frozen BK240.out 0;have hfz78_1:=blk_frozen BK240.out 1;have hfz78_2:=blk_frozen BK240.out 2;have hfz78_3:=blk_frozen BK240.out 3;have hfz78_4:=blk_frozen BK240.out 4;have hnb79:=NB232_0.out;have hnc79:=NB0_232.out;have hcz80_0 : w77.cell? ⟨gb232,0,none⟩ = some (.string (⟨#[]⟩ : ByteArray)):=(blk_cell BK232.out 0).trans rfl;have hcz80_1 : w77.cell? ⟨gb232,1,none⟩ = some (.int .i64 0):=(blk_cell BK232.out 1).trans rfl;have hcz80_2 : w77.cell? ⟨gb232,2,none⟩ = some (.int .i64 0):=(blk_cell BK232.out 2).trans rfl;have hcz80_3 : w77.cell? ⟨gb232,3,none⟩ = some (.int .i64 0):=(blk_cell BK232.out 3).trans rfl;have hcz80_4 : w77.cell? ⟨gb232,4,none⟩ = some (.int .i64 0):=(blk_cell BK232.out 4).trans rfl;have hfz80_0:=blk_frozen BK232.out 0;have hfz80_1:=blk_frozen BK232.out 1;have hfz80_2:=blk_frozen BK232.out 2;have hfz80_3:=blk_frozen BK232.out 3;have hfz80_4:=blk_frozen BK232.out 4))
      refine bodyPost_ret (results_cell_row rfl _ _ gb232 33 #[.string t233, .int .i64 t234, .int .i64 t235, .int .i64 t236, .int .i64 t268] (0,0) _ rfl (by refine blk_put (cs:=#[.string t233, .int .i64 t234, .int .i64 t235, .int .i64 t236, .int .i64 0]) ?_ 4 _ rfl;refine blk_put (cs:=#[.string t233, .int .i64 t234, .int .i64 t235, .int .i64 0, .int .i64 0]) ?_ 3 _ rfl;refine blk_put (cs:=#[.string t233, .int .i64 t234, .int .i64 0, .int .i64 0, .int .i64 0]) ?_ 2 _ rfl;refine blk_put (cs:=#[.string t233, .int .i64 0, .int .i64 0, .int .i64 0, .int .i64 0]) ?_ 1 _ rfl;refine blk_put (cs:=#[.string (⟨#[]⟩ : ByteArray), .int .i64 0, .int .i64 0, .int .i64 0, .int .i64 0]) ?_ 0 _ rfl;refine blk_far ?_ NB232_240.out _;exact BK232.out) Try.underlying33 rfl (by kernel_rfl)) rfl ?_
      exact ⟨by rfl,by repeat ((with_reducible first | exact HI0.out | refine IsS46.far ?_ NB0_232.out _ | refine IsS46.far ?_ NB0_240.out _)),by repeat ((with_reducible first | exact HB.out | refine below_set ?_ GE232.out | refine below_set ?_ GE240.out)),by repeat ((with_reducible first | exact HK.out | refine keep_far ?_ GW232.out _ | refine keep_far ?_ GW240.out _))⟩
     ·rw [if_neg c65] at H
      have c65b0 : (t241 == 4) = false:=beq_eq_false_iff_ne.mpr c65
      have c65b1 : (t241 != 4) = true:=bne_iff_ne.mpr c65
      simp only [Option.some.injEq,Prod.mk.injEq] at H
      obtain ⟨rfl,rfl,rfl,rfl,rfl,rfl,rfl⟩ := H
      go_enter Try.func36,Try.ntmps36
      go_wp2_with (first | ((with_reducible refine gate_dst (N:=2) rfl ?_);refine box_event ?hg (N:=2) ?hd (cs:=#[.string (⟨#[]⟩ : ByteArray), .int .i64 0, .int .i64 0, .int .i64 0, .int .i64 0]) (t:=33) ?hr ?_;(case hd => rfl);(case hg => rfl);(case hr => (go_simp;done));intro gb232 hg w81 hbox hb;have n0_:=Aside0.mk (IsS46.below (by exact HI0.out) hb);have n1_:=Aside0.mk (KeepBut.trans (by exact HK.out) (KeepBut.of_below hb g none) (.inl rfl));have n2_:=Aside0.mk (below_step (by exact HB.out) hb);have n3_:=Aside0.mk (hbox);have n4_:=Aside0.mk ((by rw [hg];exact (keep_size (w:=w) (g:=g) (row:=none) (by exact HK.out)) : w.heap.size ≤ gb232));have n5_:=Aside0.mk ((Nat.le_trans HW0.out (by rw [hg];exact (keep_size (w:=w) (g:=g) (row:=none) (by exact HK.out)) : w.heap.size ≤ gb232) : w0.heap.size ≤ gb232));have n6_:=Aside0.mk ((by rw [hg];exact Nat.ne_of_lt (IsS46.lt (show IsS46 w0 _ g s0_0 s0_1 s0_2 from by exact HI0.out)) : g ≠ gb232));have n7_:=Aside0.mk ((by rw [hg];exact Nat.ne_of_gt (IsS46.lt (show IsS46 w0 _ g s0_0 s0_1 s0_2 from by exact HI0.out)) : gb232 ≠ g));clear HI0;clear HK;clear HB;have HI0:=n0_;have HK:=n1_;have HB:=n2_;have BK232:=n3_;have GW232:=n4_;have GE232:=n5_;have NB0_232:=n6_;have NB232_0:=n7_;clear n0_ n1_ n2_ n3_ n4_ n5_ n6_ n7_;clear hb hbox hg) | ((with_reducible refine gate_callee (f:=35) rfl ?_);refine goesL_ (some 5) rfl rfl Try.func35 (by kernel_rfl) rfl #[.pointer (some ⟨g,0,none⟩)] rfl (by (try simp only [List.map_toArray,List.map_cons,List.map_nil]);rfl) ?_;(with_reducible refine (spec_l1Cur_container.calls k g s0_0 s0_1 s0_2 t233 t234 t235 t236 t237 t238 t239 w0 _ ?side1 ?side2 A2.out).mono ?_);(case side1 => exact HI0.out);(case side2 => exact HB.out);rintro e w82 ⟨rfl,hi,hb,hk⟩;refine ⟨_,rfl, ?_⟩;have n0_:=Aside0.mk (KeepBut.blk hk (g':=gb232) (o := .cells #[.string (⟨#[]⟩ : ByteArray), .int .i64 0, .int .i64 0, .int .i64 0, .int .i64 0] 33 (0,0)) (by exact BK232.out) NB232_0.out (by simp));have n1_:=Aside0.mk (KeepBut.trans (by exact HK.out) hk (.inl rfl));have n2_:=Aside0.mk (hb);have n3_:=Aside0.mk (hi);clear BK232;clear HK;clear HB;clear HI0;have BK232:=n0_;have HK:=n1_;have HB:=n2_;have HI0:=n3_;clear n0_ n1_ n2_ n3_;(try clear hb);(try clear hk);(try clear hi)) | ((with_reducible refine gate_dst (N:=3) rfl ?_);refine box_event ?hg (N:=3) ?hd (cs:=#[.string (⟨#[]⟩ : ByteArray), .int .i64 0, .int .i64 0, .int .i64 0, .int .i64 0]) (t:=33) ?hr ?_;(case hd => rfl);(case hg => rfl);(case hr => (go_simp;done));intro gb240 hg w83 hbox hb;have n0_:=Aside0.mk (IsS46.below (by exact HI0.out) hb);have n1_:=Aside0.mk (blk_below (g:=gb232) (o := .cells #[.string (⟨#[]⟩ : ByteArray), .int .i64 0, .int .i64 0, .int .i64 0, .int .i64 0] 33 (0,0)) (by exact BK232.out) hb);have n2_:=Aside0.mk (KeepBut.trans (by exact HK.out) (KeepBut.of_below hb g none) (.inl rfl));have n3_:=Aside0.mk (below_step (by exact HB.out) hb);have n4_:=Aside0.mk (hbox);have n5_:=Aside0.mk ((by rw [hg];exact (keep_size (w:=w) (g:=g) (row:=none) (by exact HK.out)) : w.heap.size ≤ gb240));have n6_:=Aside0.mk ((Nat.le_trans HW0.out (by rw [hg];exact (keep_size (w:=w) (g:=g) (row:=none) (by exact HK.out)) : w.heap.size ≤ gb240) : w0.heap.size ≤ gb240));have n7_:=Aside0.mk ((by rw [hg];exact Nat.ne_of_lt (blk_lt (g:=gb232) (o := .cells #[.string (⟨#[]⟩ : ByteArray), .int .i64 0, .int .i64 0, .int .i64 0, .int .i64 0] 33 (0,0)) (by exact BK232.out)) : gb232 ≠ gb240));have n8_:=Aside0.mk ((by rw [hg];exact Nat.ne_of_gt (blk_lt (g:=gb232) (o := .cells #[.string (⟨#[]⟩ : ByteArray), .int .i64 0, .int .i64 0, .int .i64 0, .int .i64 0] 33 (0,0)) (by exact BK232.out)) : gb240 ≠ gb232));have n9_:=Aside0.mk ((by rw [hg];exact Nat.ne_of_lt (IsS46.lt (show IsS46 w0 _ g s0_0 t238 t239 from by exact HI0.out)) : g ≠ gb240));have n10_:=Aside0.mk ((by rw [hg];exact Nat.ne_of_gt (IsS46.lt (show IsS46 w0 _ g s0_0 t238 t239 from by exact HI0.out)) : gb240 ≠ g));clear HI0;clear BK232;clear HK;clear HB;have HI0:=n0_;have BK232:=n1_;have HK:=n2_;have HB:=n3_;have BK240:=n4_;have GW240:=n5_;have GE240:=n6_;have NB232_240:=n7_;have NB240_232:=n8_;have NB0_240:=n9_;have NB240_0:=n10_;clear n0_ n1_ n2_ n3_ n4_ n5_ n6_ n7_ n8_ n9_ n10_;clear hb hbox hg;have hnb84:=NB240_232.out;have hnc84:=NB232_240.out;have hnb85:=NB240_0.out;have hnc85:=NB0_240.out;have hcz86_0 : w83.cell? ⟨gb240,0,none⟩ = some (.string (⟨#[]⟩ : ByteArray)):=(blk_cell BK240.out 0).trans rfl;have hcz86_1 : w83.cell? ⟨gb240,1,none⟩ = some (.int .i64 0):=(blk_cell BK240.out 1).trans rfl;have hcz86_2 : w83.cell? ⟨gb240,2,none⟩ = some (.int .i64 0):=(blk_cell BK240.out 2).trans rfl;have hcz86_3 : w83.cell? ⟨gb240,3,none⟩ = some (.int .i64 0):=(blk_cell BK240.out 3).trans rfl;have hcz86_4 : w83.cell? ⟨gb240,4,none⟩ = some (.int .i64 0):=(blk_cell BK240.out 4).trans rfl;have hfz86_0:=blk_frozen BK240.out 0;have hfz86_1:=blk_frozen BK240.out 1;have hfz86_2:=blk_frozen BK240.out 2;have hfz86_3:=blk_frozen BK240.out 3;have hfz86_4:=blk_frozen BK240.out 4) | ((with_reducible refine gate_callee (f:=21) rfl ?_);refine goesL_ (some 7) rfl rfl Try.func21 (by kernel_rfl) rfl #[.pointer (some ⟨g,0,none⟩), .int .i64 24] rfl (by (try simp only [List.map_toArray,List.map_cons,List.map_nil]);rfl) ?_;(with_reducible refine (spec_l1Cur_pick.calls g s0_0 t238 t239 24 t241 t242 t243 w0 _ ?side1 ?side2 A3.out).mono ?_);(case side1 => repeat ((with_reducible first | exact HI0.out | refine IsS46.far ?_ NB0_240.out _)));(case side2 => repeat ((with_reducible first | exact HB.out | refine below_set ?_ GE240.out)));rintro e w87 ⟨rfl,hi,hb,hk⟩;refine ⟨_,rfl, ?_⟩;have n0_:=Aside0.mk (KeepBut.blk hk (g':=gb232) (o := .cells #[.string (⟨#[]⟩ : ByteArray), .int .i64 0, .int .i64 0, .int .i64 0, .int .i64 0] 33 (0,0)) (by refine blk_far ?_ NB232_240.out _;refine blk_far ?_ NB232_240.out _;refine blk_far ?_ NB232_240.out _;refine blk_far ?_ NB232_240.out _;refine blk_far ?_ NB232_240.out _;exact BK232.out) NB232_0.out (by simp));have n1_:=Aside0.mk (KeepBut.blk hk (g':=gb240) (o := .cells #[.string t233, .int .i64 t234, .int .i64 t235, .int .i64 t236, .int .i64 t237] 33 (0,0)) (by refine blk_put (cs:=#[.string t233, .int .i64 t234, .int .i64 t235, .int .i64 t236, .int .i64 0]) ?_ 4 _ rfl;refine blk_put (cs:=#[.string t233, .int .i64 t234, .int .i64 t235, .int .i64 0, .int .i64 0]) ?_ 3 _ rfl;refine blk_put (cs:=#[.string t233, .int .i64 t234, .int .i64 0, .int .i64 0, .int .i64 0]) ?_ 2 _ rfl;refine blk_put (cs:=#[.string t233, .int .i64 0, .int .i64 0, .int .i64 0, .int .i64 0]) ?_ 1 _ rfl;refine blk_put (cs:=#[.string (⟨#[]⟩ : ByteArray), .int .i64 0, .int .i64 0, .int .i64 0, .int .i64 0]) ?_ 0 _ rfl;exact BK240.out) NB240_0.out (by simp));have n2_:=Aside0.mk (KeepBut.trans (by repeat ((with_reducible first | exact HK.out | refine keep_far ?_ GW240.out _))) hk (.inl rfl));have n3_:=Aside0.mk (hb);have n4_:=Aside0.mk (hi);clear BK232;clear BK240;clear HK;clear HB;clear HI0;have BK232:=n0_;have BK240:=n1_;have HK:=n2_;have HB:=n3_;have HI0:=n4_;clear n0_ n1_ n2_ n3_ n4_;(try clear hb);(try clear hk);(try clear hi);have hcz88_0 : w87.cell? ⟨gb240,0,none⟩ = some (.string t233):=(blk_cell BK240.out 0).trans rfl;have hcz88_1 : w87.cell? ⟨gb240,1,none⟩ = some (.int .i64 t234):=(blk_cell BK240.out 1).trans rfl;have hcz88_2 : w87.cell? ⟨gb240,2,none⟩ = some (.int .i64 t235):=(blk_cell BK240.out 2).trans rfl;have hcz88_3 : w87.cell? ⟨gb240,3,none⟩ = some (.int .i64 t236):=(blk_cell BK240.out 3).trans rfl;have hcz88_4 : w87.cell? ⟨gb240,4,none⟩ = some (.int .i64 t237):=(blk_cell BK240.out 4).trans rfl;have hfz88_0:=blk_frozen BK240.out 0;have hfz88_1:=blk_frozen BK240.out 1;have hfz88_2:=blk_frozen BK240.out 2;have hfz88_3:=blk_frozen BK240.out 3;have hfz88_4:=blk_frozen BK240.out 4;have hnb89:=NB232_0.out;have hnc89:=NB0_232.out;have hcz90_0 : w87.cell? ⟨gb232,0,none⟩ = some (.string (⟨#[]⟩ : ByteArray)):=(blk_cell BK232.out 0).trans rfl;have hcz90_1 : w87.cell? ⟨gb232,1,none⟩ = some (.int .i64 0):=(blk_cell BK232.out 1).trans rfl;have hcz90_2 : w87.cell? ⟨gb232,2,none⟩ = some (.int .i64 0):=(blk_cell BK232.out 2).trans rfl;have hcz90_3 : w87.cell? ⟨gb232,3,none⟩ = some (.int .i64 0):=(blk_cell BK232.out 3).trans rfl;have hcz90_4 : w87.cell? ⟨gb232,4,none⟩ = some (.int .i64 0):=(blk_cell BK232.out 4).trans rfl;have hfz90_0:=blk_frozen BK232.out 0;have hfz90_1:=blk_frozen BK232.out 1;have hfz90_2:=blk_frozen BK232.out 2;have hfz90_3:=blk_frozen BK232.out 3;have hfz90_4:=blk_frozen BK232.out 4))
      refine bodyPost_ret (results_cell_row rfl _ _ gb232 33 #[.string t233, .int .i64 t234, .int .i64 t235, .int .i64 t236, .int .i64 t237] (0,0) _ rfl (by refine blk_put (cs:=#[.string t233, .int .i64 t234, .int .i64 t235, .int .i64 t236, .int .i64 0]) ?_ 4 _ rfl;refine blk_put (cs:=#[.string t233, .int .i64 t234, .int .i64 t235, .int .i64 0, .int .i64 0]) ?_ 3 _ rfl;refine blk_put (cs:=#[.string t233, .int .i64 t234, .int .i64 0, .int .i64 0, .int .i64 0]) ?_ 2 _ rfl;refine blk_put (cs:=#[.string t233, .int .i64 0, .int .i64 0, .int .i64 0, .int .i64 0]) ?_ 1 _ rfl;refine blk_put (cs:=#[.string (⟨#[]⟩ : ByteArray), .int .i64 0, .int .i64 0, .int .i64 0, .int .i64 0]) ?_ 0 _ rfl;exact BK232.out) Try.underlying33 rfl (by kernel_rfl)) rfl ?_
      exact ⟨by rfl,by repeat ((with_reducible first | exact HI0.out | refine IsS46.far ?_ NB0_232.out _)),by repeat ((with_reducible first | exact HB.out | refine below_set ?_ GE232.out)),by repeat ((with_reducible first | exact HK.out | refine keep_far ?_ GW232.out _))⟩

/-! ### spec_l1Cur_containers: function 18 -/
mutual
def spec_l1Cur_containers.l0 : Nat → List (S33) → Int → List Int → Int → Int → Option ((List (S33)) × Int × Int)
 | 0,_,_,_,_,_ => none
 | k + 1,x3,x4,x1000,x1001,x1002 => if x4 > 0 then ((spec_l1Cur_container.f k x1000 x1001 x1002).bind fun bt277 => ((spec_l2Find.f k x3 bt277.1).bind fun t285 => (if t285 < 0 then (if x3.length < 2932031007402 then (spec_l1Cur_containers.l0 k (x3 ++ [(⟨bt277.1,bt277.2.1,bt277.2.2.1,bt277.2.2.2.1,bt277.2.2.2.2.1⟩ : S33)]) (wrap64 (x4 - 1)) x1000 bt277.2.2.2.2.2.1 bt277.2.2.2.2.2.2) else (none)) else (spec_l1Cur_containers.l0 k x3 (wrap64 (x4 - 1)) x1000 bt277.2.2.2.2.2.1 bt277.2.2.2.2.2.2)))) else ((spec_l1Cur_pick.f x1000 x1001 x1002 20).bind fun bt289 => (if bt289.1 = 0 then ((spec_l1Cur_anyContainer.f k x1000 bt289.2.1 bt289.2.2).bind fun bt292 => (if x3.length < 2932031007402 then (some ((x3 ++ [(⟨bt292.1,bt292.2.1,bt292.2.2.1,bt292.2.2.2.1,bt292.2.2.2.2.1⟩ : S33)]),bt292.2.2.2.2.2.1,bt292.2.2.2.2.2.2)) else (none))) else (if bt289.1 = 1 then (if (x3.length : Int) > 0 then ((spec_l1Cur_pick.f x1000 bt289.2.1 bt289.2.2 (x3.length : Int)).bind fun bt302 => (if 0 ≤ bt302.1 then (if bt302.1 < (x3.length : Int) then (if x3.length < 2932031007402 then (some ((x3 ++ [(⟨(rd_T33 x3 bt302.1).f0,(rd_T33 x3 bt302.1).f1,(rd_T33 x3 bt302.1).f2,(rd_T33 x3 bt302.1).f3,(rd_T33 x3 bt302.1).f4⟩ : S33)]),bt302.2.1,bt302.2.2)) else (none)) else (none)) else (none))) else (some (x3,bt289.2.1,bt289.2.2))) else (if bt289.1 = 2 then (spec_l1Cur_containers.l1 k x3 0 x1000 bt289.2.1 bt289.2.2) else (some (x3,bt289.2.1,bt289.2.2))))))
def spec_l1Cur_containers.l1 : Nat → List (S33) → Int → List Int → Int → Int → Option ((List (S33)) × Int × Int)
 | 0,_,_,_,_,_ => none
 | k + 1,x3,x6,x1000,x1001,x1002 => (spec_l1Cur_pick.f x1000 x1001 x1002 2).bind fun bt309 => (if (x3.length : Int) < (wrap64 (12 + bt309.1)) then (if x6 < 14 then ((spec_l2Number.f k (⟨#[77,65,88]⟩ : ByteArray) x6).bind fun t312 => (if x3.length < 2932031007402 then (spec_l1Cur_containers.l1 k (x3 ++ [(⟨t312,1,wrap64 (100 + x6),1,wrap64 (1 + (Int.tmod x6 9))⟩ : S33)]) (wrap64 (x6 + 1)) x1000 bt309.2.1 bt309.2.2) else (none))) else (some (x3,bt309.2.1,bt309.2.2))) else (some (x3,bt309.2.1,bt309.2.2)))
end
def spec_l1Cur_containers.f (k : Nat) (s0_0 : List Int) (s0_1 : Int) (s0_2 : Int) : Option ((List (S33)) × Int × Int):=(spec_l1Cur_pick.f s0_0 s0_1 s0_2 8).bind fun bt274 => (spec_l1Cur_containers.l0 k (([] : List (S33))) bt274.1 s0_0 bt274.2.1 bt274.2.2)
theorem spec_l1Cur_containers.mono_l : ∀ k,(∀ y0 y1 y2 y3 y4,LeO (spec_l1Cur_containers.l0 k y0 y1 y2 y3 y4) (spec_l1Cur_containers.l0 (k + 1) y0 y1 y2 y3 y4)) ∧ (∀ y0 y1 y2 y3 y4,LeO (spec_l1Cur_containers.l1 k y0 y1 y2 y3 y4) (spec_l1Cur_containers.l1 (k + 1) y0 y1 y2 y3 y4))
 | 0 => ⟨fun _ _ _ _ _ r h => by simp [spec_l1Cur_containers.l0] at h,fun _ _ _ _ _ r h => by simp [spec_l1Cur_containers.l1] at h⟩
 | k + 1 => by
  obtain ⟨ih0,ih1⟩ := spec_l1Cur_containers.mono_l k
  refine ⟨?_, ?_⟩
  ·intro y0 y1 y2 y3 y4
   unfold spec_l1Cur_containers.l0
   repeat' first
   | (with_reducible exact ih0 _ _ _ _ _)
   | (with_reducible exact ih1 _ _ _ _ _)
   | (with_reducible exact spec_l1Cur_anyContainer.mono _ _ _ _)
   | (with_reducible exact spec_l1Cur_container.mono _ _ _ _)
   | (with_reducible exact spec_l2Find.mono _ _ _)
   | (with_reducible exact spec_l2Number.mono _ _ _)
   | (with_reducible exact LeO.refl _)
   | (with_reducible exact LeO.none _)
   | (with_reducible refine LeO.ite ?_ ?_)
   | (with_reducible refine LeO.bind ?_ (fun _ => ?_))
   | exact ih0 _ _ _ _ _
   | exact ih1 _ _ _ _ _
   | exact spec_l1Cur_anyContainer.mono _ _ _ _
   | exact spec_l1Cur_container.mono _ _ _ _
   | exact spec_l2Find.mono _ _ _
   | exact spec_l2Number.mono _ _ _
   | exact LeO.none _
   | refine LeO.ite ?_ ?_
   | refine LeO.bind ?_ (fun _ => ?_)
  ·intro y0 y1 y2 y3 y4
   unfold spec_l1Cur_containers.l1
   repeat' first
   | (with_reducible exact ih0 _ _ _ _ _)
   | (with_reducible exact ih1 _ _ _ _ _)
   | (with_reducible exact spec_l1Cur_anyContainer.mono _ _ _ _)
   | (with_reducible exact spec_l1Cur_container.mono _ _ _ _)
   | (with_reducible exact spec_l2Find.mono _ _ _)
   | (with_reducible exact spec_l2Number.mono _ _ _)
   | (with_reducible exact LeO.refl _)
   | (with_reducible exact LeO.none _)
   | (with_reducible refine LeO.ite ?_ ?_)
   | (with_reducible refine LeO.bind ?_ (fun _ => ?_))
   | exact ih0 _ _ _ _ _
   | exact ih1 _ _ _ _ _
   | exact spec_l1Cur_anyContainer.mono _ _ _ _
   | exact spec_l1Cur_container.mono _ _ _ _
   | exact spec_l2Find.mono _ _ _
   | exact spec_l2Number.mono _ _ _
   | exact LeO.none _
   | refine LeO.ite ?_ ?_
   | refine LeO.bind ?_ (fun _ => ?_)
theorem spec_l1Cur_containers.mono : ∀ a0 a1 a2 k,LeO (spec_l1Cur_containers.f k a0 a1 a2) (spec_l1Cur_containers.f (k + 1) a0 a1 a2):=by
 intro a0 a1 a2 k
 obtain ⟨ih0,ih1⟩ := spec_l1Cur_containers.mono_l k
 unfold spec_l1Cur_containers.f
 repeat' first
   | (with_reducible exact ih0 _ _ _ _ _)
   | (with_reducible exact ih1 _ _ _ _ _)
   | (with_reducible exact spec_l1Cur_anyContainer.mono _ _ _ _)
   | (with_reducible exact spec_l1Cur_container.mono _ _ _ _)
   | (with_reducible exact spec_l2Find.mono _ _ _)
   | (with_reducible exact spec_l2Number.mono _ _ _)
   | (with_reducible exact LeO.refl _)
   | (with_reducible exact LeO.none _)
   | (with_reducible refine LeO.ite ?_ ?_)
   | (with_reducible refine LeO.bind ?_ (fun _ => ?_))
   | exact ih0 _ _ _ _ _
   | exact ih1 _ _ _ _ _
   | exact spec_l1Cur_anyContainer.mono _ _ _ _
   | exact spec_l1Cur_container.mono _ _ _ _
   | exact spec_l2Find.mono _ _ _
   | exact spec_l2Number.mono _ _ _
   | exact LeO.none _
   | refine LeO.ite ?_ ?_
   | refine LeO.bind ?_ (fun _ => ?_)
set_option maxHeartbeats 8000000 in
set_option maxRecDepth 100000 in
theorem spec_l1Cur_containers.calls (k : Nat) (g : Nat) (s0_0 : List Int) (s0_1 : Int) (s0_2 : Int) (r1 : List (S33)) (r2 : Int) (r3 : Int) (w0 w : World) (hI : IsS46 w0 w g s0_0 s0_1 s0_2) (hB : Below w0.heap.size w0 w) (h : spec_l1Cur_containers.f k s0_0 s0_1 s0_2 = some (r1,r2,r3)) :
  Calls Try.prog 18 #[.pointer (some ⟨g,0,none⟩)] w fun e w' => ∃ v0_ : Value,e = .returned (v0_) ∧ Kd.R k33 33 w' w.heap.size (fun _ => True) v0_ r1 ∧ IsS46 w0 w' g s0_0 r2 r3 ∧ Below w0.heap.size w0 w' ∧ KeepBut w w' g none:=by
 have hu33:=Try.underlying33
 have HI0:=Aside0.mk hI
 have HK:=Aside0.mk (KeepBut.refl w g none)
 have HL:=Aside0.mk hB.size
 clear hI
 have HW0:=Aside0.mk hB.size
 have HB:=Aside0.mk hB
 clear hB
 have H : ((spec_l1Cur_pick.f s0_0 s0_1 s0_2 8).bind fun bt274 => (spec_l1Cur_containers.l0 k (([] : List (S33))) bt274.1 s0_0 bt274.2.1 bt274.2.2)) = some (r1,r2,r3):=h
 clear h
 obtain ⟨y271,hy271⟩ : ∃ y_ : List (S33),y_ = (([] : List (S33))):=⟨_,rfl⟩
 replace H : ((spec_l1Cur_pick.f s0_0 s0_1 s0_2 8).bind fun bt274 => (spec_l1Cur_containers.l0 k y271 bt274.1 s0_0 bt274.2.1 bt274.2.2)) = some (r1,r2,r3):=by (rw [hy271];with_reducible exact H)
 have Ny271:=Aside0.mk hy271
 clear hy271
 replace H:=Option.bind_eq_some_iff.mp H
 obtain ⟨⟨t274,t275,t276⟩,A20,H⟩ := H
 replace H : (spec_l1Cur_containers.l0 k y271 t274 s0_0 t275 t276) = some (r1,r2,r3):=H
 have A2:=Aside0.mk A20
 clear A20
 have H':=Aside0.mk H
 clear H
 go_enter Try.func18,Try.ntmps18
 go_wp2_with (first | ((with_reducible refine gate_dst (N:=7) rfl ?_);refine Kd.R_lit k33 _ 33 ?hg (N:=7) ?hd (xs:=([] : List (S33))) (inner := []) (ok:=fun _ => True) (okp:=fun _ => True) ?hr ?hp (fun _ hk => hk) trivial (Below.refl _ _) (Nat.le_refl _) (by simp) ?_;(case hd => rfl);(case hg => rfl);(case hr => (go_simp;done));(case hp => exact (Reps.none _ _));intro v272 w3 ho4 hb hg_ hnew_;clear hg_ hnew_;(rw [← Ny271.out] at ho4);have n0_:=Aside0.mk (Kd.R_lower ho4 (keep_size (w:=w) (g:=g) (row:=none) (by exact HK.out)));have n1_:=Aside0.mk (IsS46.below (by exact HI0.out) hb);have n2_:=Aside0.mk (KeepBut.trans (by exact HK.out) (KeepBut.of_below hb g none) (.inl rfl));have n3_:=Aside0.mk (below_step (by exact HB.out) hb);clear HI0;clear HK;clear HB;have HO273:=n0_;have HI0:=n1_;have HK:=n2_;have HB:=n3_;clear n0_ n1_ n2_ n3_;clear hb ho4) | ((with_reducible refine gate_callee (f:=21) rfl ?_);refine goesL_ (some 9) rfl rfl Try.func21 (by kernel_rfl) rfl #[.pointer (some ⟨g,0,none⟩), .int .i64 8] rfl (by (try simp only [List.map_toArray,List.map_cons,List.map_nil]);rfl) ?_;(with_reducible refine (spec_l1Cur_pick.calls g s0_0 s0_1 s0_2 8 t274 t275 t276 w0 _ ?side1 ?side2 A2.out).mono ?_);(case side1 => exact HI0.out);(case side2 => exact HB.out);rintro e w5 ⟨rfl,hi,hb,hk⟩;refine ⟨_,rfl, ?_⟩;have n0_:=Aside0.mk (Kd.R_mono (Kd.R_keep (IsS46.apart (show IsS46 w0 _ g s0_0 s0_1 s0_2 from by exact HI0.out) (by exact HO273.out) (by decide)) hk (fun _ h => h.2)) (fun _ h => h.1));have n1_:=Aside0.mk (KeepBut.trans (by exact HK.out) hk (.inl rfl));have n2_:=Aside0.mk (hb);have n3_:=Aside0.mk (hi);clear HO273;clear HK;clear HB;clear HI0;have HO273:=n0_;have HK:=n1_;have HB:=n2_;have HI0:=n3_;clear n0_ n1_ n2_ n3_;(try clear hb);(try clear hk);(try clear hi)))
 go_loopg [3,4] k (fun kq v3 v4 w' => ∃ (x3_1 : List (S33)) (x4_1 : Int) (x1001_1 : Int) (x1002_1 : Int),v4 = .int .i64 x4_1 ∧ Aside0 (spec_l1Cur_containers.l0 kq x3_1 x4_1 s0_0 x1001_1 x1002_1 = some (r1,r2,r3)) ∧ Aside0 (kq ≤ k) ∧ Aside0 (Kd.R k33 33 w' w.heap.size (fun _ => True) v3 x3_1) ∧ Aside0 (IsS46 w0 w' g s0_0 x1001_1 x1002_1) ∧ Aside0 (KeepBut w w' g none) ∧ Aside0 (Below w0.heap.size w0 w'))
 case atStart => exact ⟨(y271),(t274),(t275),(t276),(by rfl),H',⟨Nat.le_refl _⟩,⟨by exact HO273.out⟩,⟨by exact HI0.out⟩,⟨by exact HK.out⟩,⟨by exact HB.out⟩⟩
 case round =>
  clear H'
  try clear c1
  try clear c2
  try clear p2
  obtain ⟨x3_1,x4_1,x1001_1,x1002_1,rfl,HA,HK1,HO_3,HI0,HK,HB⟩ := hrel
  cases gk with
  | zero => exact absurd HA.out (by simp [spec_l1Cur_containers.l0])
  | succ k1 =>
   have H:=HA.out
   clear HA
   simp only [spec_l1Cur_containers.l0] at H
   by_cases c6 : x4_1 > 0
   ·rw [if_pos c6] at H
    have c6b0 : decide (0 < x4_1) = true:=decide_eq_true c6
    clear c6
    replace H:=Option.bind_eq_some_iff.mp H
    obtain ⟨⟨t277,t278,t279,t280,t281,t282,t283⟩,A70,H⟩ := H
    replace H : ((spec_l2Find.f k1 x3_1 t277).bind fun t285 => (if t285 < 0 then (if x3_1.length < 2932031007402 then (spec_l1Cur_containers.l0 k1 (x3_1 ++ [(⟨t277,t278,t279,t280,t281⟩ : S33)]) (wrap64 (x4_1 - 1)) s0_0 t282 t283) else (none)) else (spec_l1Cur_containers.l0 k1 x3_1 (wrap64 (x4_1 - 1)) s0_0 t282 t283))) = some (r1,r2,r3):=H
    have A7:=Aside0.mk A70
    clear A70
    replace H:=Option.bind_eq_some_iff.mp H
    obtain ⟨t285,A80,H⟩ := H
    replace H : (if t285 < 0 then (if x3_1.length < 2932031007402 then (spec_l1Cur_containers.l0 k1 (x3_1 ++ [(⟨t277,t278,t279,t280,t281⟩ : S33)]) (wrap64 (x4_1 - 1)) s0_0 t282 t283) else (none)) else (spec_l1Cur_containers.l0 k1 x3_1 (wrap64 (x4_1 - 1)) s0_0 t282 t283)) = some (r1,r2,r3):=H
    have A8:=Aside0.mk A80
    clear A80
    by_cases c9 : t285 < 0
    ·rw [if_pos c9] at H
     have c9b0 : decide (t285 < 0) = true:=decide_eq_true c9
     clear c9
     by_cases c10 : x3_1.length < 2932031007402
     ·rw [if_pos c10] at H
      have LMc10:=Aside0.mk c10
      clear c10
      obtain ⟨y286,hy286⟩ : ∃ y_ : List (S33),y_ = (x3_1 ++ [(⟨t277,t278,t279,t280,t281⟩ : S33)]):=⟨_,rfl⟩
      replace H : (spec_l1Cur_containers.l0 k1 y286 (wrap64 (x4_1 - 1)) s0_0 t282 t283) = some (r1,r2,r3):=by (rw [hy286];with_reducible exact H)
      have Ny286:=Aside0.mk hy286
      clear hy286
      have H':=Aside0.mk H
      clear H
      go_wp2_with (first | ((with_reducible refine gate_callee (f:=35) rfl ?_);refine goesL_ (some 15) rfl rfl Try.func35 (by kernel_rfl) rfl #[.pointer (some ⟨g,0,none⟩)] rfl (by (try simp only [List.map_toArray,List.map_cons,List.map_nil]);rfl) ?_;(with_reducible refine (spec_l1Cur_container.calls k1 g s0_0 x1001_1 x1002_1 t277 t278 t279 t280 t281 t282 t283 w0 _ ?side1 ?side2 A7.out).mono ?_);(case side1 => exact HI0.out);(case side2 => exact HB.out);rintro e w11 ⟨rfl,hi,hb,hk⟩;refine ⟨_,rfl, ?_⟩;have n0_:=Aside0.mk (Kd.R_mono (Kd.R_keep (IsS46.apart (show IsS46 w0 _ g s0_0 x1001_1 x1002_1 from by exact HI0.out) (by exact HO_3.out) (by decide)) hk (fun _ h => h.2)) (fun _ h => h.1));have n1_:=Aside0.mk (KeepBut.trans (by exact HK.out) hk (.inl rfl));have n2_:=Aside0.mk (hb);have n3_:=Aside0.mk (hi);clear HO_3;clear HK;clear HB;clear HI0;have HO_3:=n0_;have HK:=n1_;have HB:=n2_;have HI0:=n3_;clear n0_ n1_ n2_ n3_;(try clear hb);(try clear hk);(try clear hi)) | ((with_reducible refine gate_dst (N:=5) rfl ?_);refine box_event ?hg (N:=5) ?hd (cs:=#[.string (⟨#[]⟩ : ByteArray), .int .i64 0, .int .i64 0, .int .i64 0, .int .i64 0]) (t:=33) ?hr ?_;(case hd => rfl);(case hg => rfl);(case hr => (go_simp;done));intro gb284 hg w12 hbox hb;have n0_:=Aside0.mk (Kd.R_below (Kd.R_elderB (by exact HO_3.out) gb284 (Nat.le_of_eq hg.symm)) hb);have n1_:=Aside0.mk (IsS46.below (by exact HI0.out) hb);have n2_:=Aside0.mk (KeepBut.trans (by exact HK.out) (KeepBut.of_below hb g none) (.inl rfl));have n3_:=Aside0.mk (below_step (by exact HB.out) hb);have n4_:=Aside0.mk (hbox);have n5_:=Aside0.mk ((by rw [hg];exact (keep_size (w:=w) (g:=g) (row:=none) (by exact HK.out)) : w.heap.size ≤ gb284));have n6_:=Aside0.mk ((Nat.le_trans HW0.out (by rw [hg];exact (keep_size (w:=w) (g:=g) (row:=none) (by exact HK.out)) : w.heap.size ≤ gb284) : w0.heap.size ≤ gb284));have n7_:=Aside0.mk ((by rw [hg];exact Nat.ne_of_lt (IsS46.lt (show IsS46 w0 _ g s0_0 t282 t283 from by exact HI0.out)) : g ≠ gb284));have n8_:=Aside0.mk ((by rw [hg];exact Nat.ne_of_gt (IsS46.lt (show IsS46 w0 _ g s0_0 t282 t283 from by exact HI0.out)) : gb284 ≠ g));clear HO_3;clear HI0;clear HK;clear HB;have HO_3:=n0_;have HI0:=n1_;have HK:=n2_;have HB:=n3_;have BK284:=n4_;have GW284:=n5_;have GE284:=n6_;have NB0_284:=n7_;have NB284_0:=n8_;clear n0_ n1_ n2_ n3_ n4_ n5_ n6_ n7_ n8_;clear hb hbox hg;have hnb13:=NB284_0.out;have hnc13:=NB0_284.out;have hcz14_0 : w12.cell? ⟨gb284,0,none⟩ = some (.string (⟨#[]⟩ : ByteArray)):=(blk_cell BK284.out 0).trans rfl;have hcz14_1 : w12.cell? ⟨gb284,1,none⟩ = some (.int .i64 0):=(blk_cell BK284.out 1).trans rfl;have hcz14_2 : w12.cell? ⟨gb284,2,none⟩ = some (.int .i64 0):=(blk_cell BK284.out 2).trans rfl;have hcz14_3 : w12.cell? ⟨gb284,3,none⟩ = some (.int .i64 0):=(blk_cell BK284.out 3).trans rfl;have hcz14_4 : w12.cell? ⟨gb284,4,none⟩ = some (.int .i64 0):=(blk_cell BK284.out 4).trans rfl;have hfz14_0:=blk_frozen BK284.out 0;have hfz14_1:=blk_frozen BK284.out 1;have hfz14_2:=blk_frozen BK284.out 2;have hfz14_3:=blk_frozen BK284.out 3;have hfz14_4:=blk_frozen BK284.out 4;obtain ⟨Ao15,co15,eo15⟩ := Kd.R_slice HO_3.out;subst eo15) | ((with_reducible refine gate_callee (f:=25) rfl ?_);refine goesL_ (some 19) rfl rfl Try.func25 (by kernel_rfl) rfl #[.slice Ao15 x3_1.length co15, .string t277] rfl (by (try simp only [List.map_toArray,List.map_cons,List.map_nil]);rfl) ?_;(with_reducible refine (spec_l2Find.calls k1 _ _ x3_1 t277 t285 _ ?side1 ?side2 A8.out).mono ?_);(case side1 => refine (Kd.R_reads' (e:=33) (base:=w.heap.size) (ok:=fun k_ => (True ∧ k_ ≠ gb284)) (n:=x3_1.length) (c:=co15) ?_).2.2;exact (by exact (Kd.R_mono (Kd.R_far (p:=⟨gb284,4,none⟩) (Kd.R_far (p:=⟨gb284,3,none⟩) (Kd.R_far (p:=⟨gb284,2,none⟩) (Kd.R_far (p:=⟨gb284,1,none⟩) (Kd.R_far (p:=⟨gb284,0,none⟩) (Kd.R_mono HO_3.out (fun k_ hk => (⟨hk,hk.2⟩ : _ ∧ k_ ≠ gb284))) (fun _ hk => hk.2) (.string t277)) (fun _ hk => hk.2) (.int .i64 t278)) (fun _ hk => hk.2) (.int .i64 t279)) (fun _ hk => hk.2) (.int .i64 t280)) (fun _ hk => hk.2) (.int .i64 t281)) (fun _ h_ => h_.1))));(case side2 => exact (Kd.R_reads' HO_3.out).2.1);rintro e w' ⟨rfl,⟨nd,rfl⟩⟩;refine ⟨_,rfl, ?_⟩) | ((with_reducible refine gate_builtin (b := .append) (xs:=#[.tmp 21, .tmp 23]) rfl ?_);at_builtin;refine Kd.R_append k33 w.heap.size rfl (.tmp 21) (.tmp 23) 25 33 (.agg #[(.string ⟨#[]⟩),(.int .i64 0),(.int .i64 0),(.int .i64 0),(.int .i64 0)]) 48 rfl Try.underlying25 info33 rfl (by decide) (by omega) (.slice Ao15 x3_1.length co15) x3_1 (⟨t277,t278,t279,t280,t281⟩ : S33) [.string t277, .int .i64 t278, .int .i64 t279, .int .i64 t280, .int .i64 t281] (fun k_ => k_ ≠ gb284) (fun _ => False) rfl (by (go_simp;done)) ?aP (fun _ hk => hk.elim) ?aF ?aO (Below.refl _ _) ?aS ?aL ?_;(case aP => exact k33_mkM _ _ _ (⟨t277,t278,t279,t280,t281⟩ : S33));(case aF => exact (fun k_ hk => Kd.freshB (g:=gb284) (o := .cells #[.string t277, .int .i64 t278, .int .i64 t279, .int .i64 t280, .int .i64 t281] 33 (0,0)) (by (with_reducible repeat (refine blk_drewN ?_ _));refine blk_put (cs:=#[.string t277, .int .i64 t278, .int .i64 t279, .int .i64 t280, .int .i64 0]) ?_ 4 _ rfl;refine blk_put (cs:=#[.string t277, .int .i64 t278, .int .i64 t279, .int .i64 0, .int .i64 0]) ?_ 3 _ rfl;refine blk_put (cs:=#[.string t277, .int .i64 t278, .int .i64 0, .int .i64 0, .int .i64 0]) ?_ 2 _ rfl;refine blk_put (cs:=#[.string t277, .int .i64 0, .int .i64 0, .int .i64 0, .int .i64 0]) ?_ 1 _ rfl;refine blk_put (cs:=#[.string (⟨#[]⟩ : ByteArray), .int .i64 0, .int .i64 0, .int .i64 0, .int .i64 0]) ?_ 0 _ rfl;exact BK284.out) k_ hk));(case aO => exact (by (with_reducible repeat (apply Kd.R_drewN));exact Kd.R_mono (Kd.R_far (p:=⟨gb284,4,none⟩) (Kd.R_far (p:=⟨gb284,3,none⟩) (Kd.R_far (p:=⟨gb284,2,none⟩) (Kd.R_far (p:=⟨gb284,1,none⟩) (Kd.R_far (p:=⟨gb284,0,none⟩) (Kd.R_mono HO_3.out (fun k_ hk => (⟨hk,hk.2⟩ : _ ∧ k_ ≠ gb284))) (fun _ hk => hk.2) (.string t277)) (fun _ hk => hk.2) (.int .i64 t278)) (fun _ hk => hk.2) (.int .i64 t279)) (fun _ hk => hk.2) (.int .i64 t280)) (fun _ hk => hk.2) (.int .i64 t281)) (fun _ hk => hk.1.2)));(case aS => exact (keep_size (w:=w) (g:=g) (row:=none) (by repeat ((with_reducible first | exact HK.out | apply keep_drewN | refine keep_far ?_ GW284.out _)))));(case aL => have:=LMc10.out;omega);intro v287 w16 ho hb hg hat;rw [← Ny286.out] at ho;have n0_:=Aside0.mk (IsS46.grownA HI0.out (by repeat ((with_reducible first | exact HI0.out | apply IsS46.drewN | refine IsS46.far ?_ NB0_284.out _))) hg (IsS46.own_ne HI0.out HO_3.out (by decide)));have n1_:=Aside0.mk (blk_grown (g:=gb284) (o := .cells #[.string t277, .int .i64 t278, .int .i64 t279, .int .i64 t280, .int .i64 t281] 33 (0,0)) (by (with_reducible repeat (refine blk_drewN ?_ _));refine blk_put (cs:=#[.string t277, .int .i64 t278, .int .i64 t279, .int .i64 t280, .int .i64 0]) ?_ 4 _ rfl;refine blk_put (cs:=#[.string t277, .int .i64 t278, .int .i64 t279, .int .i64 0, .int .i64 0]) ?_ 3 _ rfl;refine blk_put (cs:=#[.string t277, .int .i64 t278, .int .i64 0, .int .i64 0, .int .i64 0]) ?_ 2 _ rfl;refine blk_put (cs:=#[.string t277, .int .i64 0, .int .i64 0, .int .i64 0, .int .i64 0]) ?_ 1 _ rfl;refine blk_put (cs:=#[.string (⟨#[]⟩ : ByteArray), .int .i64 0, .int .i64 0, .int .i64 0, .int .i64 0]) ?_ 0 _ rfl;exact BK284.out) hg (Kd.R_away HO_3.out (fun _ hk => hk.2)));have n2_:=Aside0.mk (below_weaken (by repeat ((with_reducible first | exact HB.out | apply pw_below_drewN | refine below_set ?_ GE284.out))) HL.out hb);have n3_:=Aside0.mk (KeepBut.trans (by repeat ((with_reducible first | exact HK.out | apply keep_drewN | refine keep_far ?_ GW284.out _))) (KeepBut.of_grown hg g) (Kd.R_base2 HO_3.out));have n4_:=Aside0.mk (ho);clear HI0;clear BK284;clear HB;clear HK;clear HO_3;have HI0:=n0_;have BK284:=n1_;have HB:=n2_;have HK:=n3_;have HO288:=n4_;clear n0_ n1_ n2_ n3_ n4_;clear ho hb hg hat))
      go_roundg k1
      case measure => have:=HK1.out;omega
      case rel => exact ⟨(y286),(wrap64 (x4_1 - 1)),(t282),(t283),(by rfl),H',⟨by have:=HK1.out;omega⟩,⟨by exact Kd.R_mono HO288.out (fun _ hk => trivial)⟩,⟨by exact HI0.out⟩,⟨by exact HK.out⟩,⟨by exact HB.out⟩⟩
     ·rw [if_neg c10] at H
      exact absurd H (by simp)
    ·rw [if_neg c9] at H
     have c9b0 : decide (t285 < 0) = false:=decide_eq_false c9
     clear c9
     have H':=Aside0.mk H
     clear H
     go_wp2_with (first | ((with_reducible refine gate_callee (f:=35) rfl ?_);refine goesL_ (some 15) rfl rfl Try.func35 (by kernel_rfl) rfl #[.pointer (some ⟨g,0,none⟩)] rfl (by (try simp only [List.map_toArray,List.map_cons,List.map_nil]);rfl) ?_;(with_reducible refine (spec_l1Cur_container.calls k1 g s0_0 x1001_1 x1002_1 t277 t278 t279 t280 t281 t282 t283 w0 _ ?side1 ?side2 A7.out).mono ?_);(case side1 => exact HI0.out);(case side2 => exact HB.out);rintro e w17 ⟨rfl,hi,hb,hk⟩;refine ⟨_,rfl, ?_⟩;have n0_:=Aside0.mk (Kd.R_mono (Kd.R_keep (IsS46.apart (show IsS46 w0 _ g s0_0 x1001_1 x1002_1 from by exact HI0.out) (by exact HO_3.out) (by decide)) hk (fun _ h => h.2)) (fun _ h => h.1));have n1_:=Aside0.mk (KeepBut.trans (by exact HK.out) hk (.inl rfl));have n2_:=Aside0.mk (hb);have n3_:=Aside0.mk (hi);clear HO_3;clear HK;clear HB;clear HI0;have HO_3:=n0_;have HK:=n1_;have HB:=n2_;have HI0:=n3_;clear n0_ n1_ n2_ n3_;(try clear hb);(try clear hk);(try clear hi)) | ((with_reducible refine gate_dst (N:=5) rfl ?_);refine box_event ?hg (N:=5) ?hd (cs:=#[.string (⟨#[]⟩ : ByteArray), .int .i64 0, .int .i64 0, .int .i64 0, .int .i64 0]) (t:=33) ?hr ?_;(case hd => rfl);(case hg => rfl);(case hr => (go_simp;done));intro gb284 hg w18 hbox hb;have n0_:=Aside0.mk (Kd.R_below (Kd.R_elderB (by exact HO_3.out) gb284 (Nat.le_of_eq hg.symm)) hb);have n1_:=Aside0.mk (IsS46.below (by exact HI0.out) hb);have n2_:=Aside0.mk (KeepBut.trans (by exact HK.out) (KeepBut.of_below hb g none) (.inl rfl));have n3_:=Aside0.mk (below_step (by exact HB.out) hb);have n4_:=Aside0.mk (hbox);have n5_:=Aside0.mk ((by rw [hg];exact (keep_size (w:=w) (g:=g) (row:=none) (by exact HK.out)) : w.heap.size ≤ gb284));have n6_:=Aside0.mk ((Nat.le_trans HW0.out (by rw [hg];exact (keep_size (w:=w) (g:=g) (row:=none) (by exact HK.out)) : w.heap.size ≤ gb284) : w0.heap.size ≤ gb284));have n7_:=Aside0.mk ((by rw [hg];exact Nat.ne_of_lt (IsS46.lt (show IsS46 w0 _ g s0_0 t282 t283 from by exact HI0.out)) : g ≠ gb284));have n8_:=Aside0.mk ((by rw [hg];exact Nat.ne_of_gt (IsS46.lt (show IsS46 w0 _ g s0_0 t282 t283 from by exact HI0.out)) : gb284 ≠ g));clear HO_3;clear HI0;clear HK;clear HB;have HO_3:=n0_;have HI0:=n1_;have HK:=n2_;have HB:=n3_;have BK284:=n4_;have GW284:=n5_;have GE284:=n6_;have NB0_284:=n7_;have NB284_0:=n8_;clear n0_ n1_ n2_ n3_ n4_ n5_ n6_ n7_ n8_;clear hb hbox hg;have hnb19:=NB284_0.out;have hnc19:=NB0_284.out;have hcz20_0 : w18.cell? ⟨gb284,0,none⟩ = some (.string (⟨#[]⟩ : ByteArray)):=(blk_cell BK284.out 0).trans rfl;have hcz20_1 : w18.cell? ⟨gb284,1,none⟩ = some (.int .i64 0):=(blk_cell BK284.out 1).trans rfl;have hcz20_2 : w18.cell? ⟨gb284,2,none⟩ = some (.int .i64 0):=(blk_cell BK284.out 2).trans rfl;have hcz20_3 : w18.cell? ⟨gb284,3,none⟩ = some (.int .i64 0):=(blk_cell BK284.out 3).trans rfl;have hcz20_4 : w18.cell? ⟨gb284,4,none⟩ = some (.int .i64 0):=(blk_cell BK284.out 4).trans rfl;have hfz20_0:=blk_frozen BK284.out 0;have hfz20_1:=blk_frozen BK284.out 1;have hfz20_2:=blk_frozen BK284.out 2;have hfz20_3:=blk_frozen BK284.out 3;have hfz20_4:=blk_frozen BK284.out 4;obtain ⟨Ao21,co21,eo21⟩ := Kd.R_slice HO_3.out;subst eo21) | ((with_reducible refine gate_callee (f:=25) rfl ?_);refine goesL_ (some 19) rfl rfl Try.func25 (by kernel_rfl) rfl #[.slice Ao21 x3_1.length co21, .string t277] rfl (by (try simp only [List.map_toArray,List.map_cons,List.map_nil]);rfl) ?_;(with_reducible refine (spec_l2Find.calls k1 _ _ x3_1 t277 t285 _ ?side1 ?side2 A8.out).mono ?_);(case side1 => refine (Kd.R_reads' (e:=33) (base:=w.heap.size) (ok:=fun k_ => (True ∧ k_ ≠ gb284)) (n:=x3_1.length) (c:=co21) ?_).2.2;exact (by exact (Kd.R_mono (Kd.R_far (p:=⟨gb284,4,none⟩) (Kd.R_far (p:=⟨gb284,3,none⟩) (Kd.R_far (p:=⟨gb284,2,none⟩) (Kd.R_far (p:=⟨gb284,1,none⟩) (Kd.R_far (p:=⟨gb284,0,none⟩) (Kd.R_mono HO_3.out (fun k_ hk => (⟨hk,hk.2⟩ : _ ∧ k_ ≠ gb284))) (fun _ hk => hk.2) (.string t277)) (fun _ hk => hk.2) (.int .i64 t278)) (fun _ hk => hk.2) (.int .i64 t279)) (fun _ hk => hk.2) (.int .i64 t280)) (fun _ hk => hk.2) (.int .i64 t281)) (fun _ h_ => h_.1))));(case side2 => exact (Kd.R_reads' HO_3.out).2.1);rintro e w' ⟨rfl,⟨nd,rfl⟩⟩;refine ⟨_,rfl, ?_⟩))
     go_roundg k1
     case measure => have:=HK1.out;omega
     case rel => exact ⟨(x3_1),(wrap64 (x4_1 - 1)),(t282),(t283),(by rfl),H',⟨by have:=HK1.out;omega⟩,⟨by (with_reducible repeat (apply Kd.R_drewN));exact Kd.R_mono (Kd.R_far (p:=⟨gb284,4,none⟩) (Kd.R_far (p:=⟨gb284,3,none⟩) (Kd.R_far (p:=⟨gb284,2,none⟩) (Kd.R_far (p:=⟨gb284,1,none⟩) (Kd.R_far (p:=⟨gb284,0,none⟩) (Kd.R_mono HO_3.out (fun k_ hk => (⟨hk,hk.2⟩ : _ ∧ k_ ≠ gb284))) (fun _ hk => hk.2) (.string t277)) (fun _ hk => hk.2) (.int .i64 t278)) (fun _ hk => hk.2) (.int .i64 t279)) (fun _ hk => hk.2) (.int .i64 t280)) (fun _ hk => hk.2) (.int .i64 t281)) (fun _ hk => trivial)⟩,⟨by repeat ((with_reducible first | exact HI0.out | apply IsS46.drewN | refine IsS46.far ?_ NB0_284.out _))⟩,⟨by repeat ((with_reducible first | exact HK.out | apply keep_drewN | refine keep_far ?_ GW284.out _))⟩,⟨by repeat ((with_reducible first | exact HB.out | apply pw_below_drewN | refine below_set ?_ GE284.out))⟩⟩
   ·rw [if_neg c6] at H
    have c6b0 : decide (0 < x4_1) = false:=decide_eq_false c6
    clear c6
    replace H:=Option.bind_eq_some_iff.mp H
    obtain ⟨⟨t289,t290,t291⟩,A220,H⟩ := H
    replace H : (if t289 = 0 then ((spec_l1Cur_anyContainer.f k1 s0_0 t290 t291).bind fun bt292 => (if x3_1.length < 2932031007402 then (some ((x3_1 ++ [(⟨bt292.1,bt292.2.1,bt292.2.2.1,bt292.2.2.2.1,bt292.2.2.2.2.1⟩ : S33)]),bt292.2.2.2.2.2.1,bt292.2.2.2.2.2.2)) else (none))) else (if t289 = 1 then (if (x3_1.length : Int) > 0 then ((spec_l1Cur_pick.f s0_0 t290 t291 (x3_1.length : Int)).bind fun bt302 => (if 0 ≤ bt302.1 then (if bt302.1 < (x3_1.length : Int) then (if x3_1.length < 2932031007402 then (some ((x3_1 ++ [(⟨(rd_T33 x3_1 bt302.1).f0,(rd_T33 x3_1 bt302.1).f1,(rd_T33 x3_1 bt302.1).f2,(rd_T33 x3_1 bt302.1).f3,(rd_T33 x3_1 bt302.1).f4⟩ : S33)]),bt302.2.1,bt302.2.2)) else (none)) else (none)) else (none))) else (some (x3_1,t290,t291))) else (if t289 = 2 then (spec_l1Cur_containers.l1 k1 x3_1 0 s0_0 t290 t291) else (some (x3_1,t290,t291))))) = some (r1,r2,r3):=H
    have A22:=Aside0.mk A220
    clear A220
    by_cases c23 : t289 = 0
    ·rw [if_pos c23] at H
     have c23b0 : (t289 == 0) = true:=beq_iff_eq.mpr c23
     have c23b1 : (t289 != 0) = false:=bne_eq_false_iff_eq.mpr c23
     clear c23
     replace H:=Option.bind_eq_some_iff.mp H
     obtain ⟨⟨t292,t293,t294,t295,t296,t297,t298⟩,A240,H⟩ := H
     replace H : (if x3_1.length < 2932031007402 then (some ((x3_1 ++ [(⟨t292,t293,t294,t295,t296⟩ : S33)]),t297,t298)) else (none)) = some (r1,r2,r3):=H
     have A24:=Aside0.mk A240
     clear A240
     by_cases c25 : x3_1.length < 2932031007402
     ·rw [if_pos c25] at H
      have LMc25:=Aside0.mk c25
      clear c25
      obtain ⟨y299,hy299⟩ : ∃ y_ : List (S33),y_ = (x3_1 ++ [(⟨t292,t293,t294,t295,t296⟩ : S33)]):=⟨_,rfl⟩
      replace H : (some (y299,t297,t298)) = some (r1,r2,r3):=by (rw [hy299];with_reducible exact H)
      have Ny299:=Aside0.mk hy299
      clear hy299
      simp only [Option.some.injEq,Prod.mk.injEq] at H
      obtain ⟨rfl,rfl,rfl⟩ := H
      go_wp2_with (first | ((with_reducible refine gate_callee (f:=21) rfl ?_);refine goesL_ (some 26) rfl rfl Try.func21 (by kernel_rfl) rfl #[.pointer (some ⟨g,0,none⟩), .int .i64 20] rfl (by (try simp only [List.map_toArray,List.map_cons,List.map_nil]);rfl) ?_;(with_reducible refine (spec_l1Cur_pick.calls g s0_0 x1001_1 x1002_1 20 t289 t290 t291 w0 _ ?side1 ?side2 A22.out).mono ?_);(case side1 => exact HI0.out);(case side2 => exact HB.out);rintro e w26 ⟨rfl,hi,hb,hk⟩;refine ⟨_,rfl, ?_⟩;have n0_:=Aside0.mk (Kd.R_mono (Kd.R_keep (IsS46.apart (show IsS46 w0 _ g s0_0 x1001_1 x1002_1 from by exact HI0.out) (by exact HO_3.out) (by decide)) hk (fun _ h => h.2)) (fun _ h => h.1));have n1_:=Aside0.mk (KeepBut.trans (by exact HK.out) hk (.inl rfl));have n2_:=Aside0.mk (hb);have n3_:=Aside0.mk (hi);clear HO_3;clear HK;clear HB;clear HI0;have HO_3:=n0_;have HK:=n1_;have HB:=n2_;have HI0:=n3_;clear n0_ n1_ n2_ n3_;(try clear hb);(try clear hk);(try clear hi)) | ((with_reducible refine gate_callee (f:=36) rfl ?_);refine goesL_ (some 31) rfl rfl Try.func36 (by kernel_rfl) rfl #[.pointer (some ⟨g,0,none⟩)] rfl (by (try simp only [List.map_toArray,List.map_cons,List.map_nil]);rfl) ?_;(with_reducible refine (spec_l1Cur_anyContainer.calls k1 g s0_0 t290 t291 t292 t293 t294 t295 t296 t297 t298 w0 _ ?side1 ?side2 A24.out).mono ?_);(case side1 => exact HI0.out);(case side2 => exact HB.out);rintro e w27 ⟨rfl,hi,hb,hk⟩;refine ⟨_,rfl, ?_⟩;have n0_:=Aside0.mk (Kd.R_mono (Kd.R_keep (IsS46.apart (show IsS46 w0 _ g s0_0 t290 t291 from by exact HI0.out) (by exact HO_3.out) (by decide)) hk (fun _ h => h.2)) (fun _ h => h.1));have n1_:=Aside0.mk (KeepBut.trans (by exact HK.out) hk (.inl rfl));have n2_:=Aside0.mk (hb);have n3_:=Aside0.mk (hi);clear HO_3;clear HK;clear HB;clear HI0;have HO_3:=n0_;have HK:=n1_;have HB:=n2_;have HI0:=n3_;clear n0_ n1_ n2_ n3_;(try clear hb);(try clear hk);(try clear hi)) | ((with_reducible refine gate_builtin (b := .append) (xs:=#[.tmp 29, .tmp 32]) rfl ?_);at_builtin;refine Kd.R_append k33 w.heap.size rfl (.tmp 29) (.tmp 32) 25 33 (.agg #[(.string ⟨#[]⟩),(.int .i64 0),(.int .i64 0),(.int .i64 0),(.int .i64 0)]) 48 rfl Try.underlying25 info33 rfl (by decide) (by omega) u3 x3_1 (⟨t292,t293,t294,t295,t296⟩ : S33) [.string t292, .int .i64 t293, .int .i64 t294, .int .i64 t295, .int .i64 t296] (fun _ => True) (fun _ => False) rfl rfl ?aP (fun _ hk => hk.elim) ?aF ?aO (Below.refl _ _) ?aS ?aL ?_;(case aP => exact k33_mkM _ _ _ (⟨t292,t293,t294,t295,t296⟩ : S33));(case aF => exact (fun _ _ => trivial));(case aO => exact (by exact HO_3.out));(case aS => exact (keep_size (w:=w) (g:=g) (row:=none) (by exact HK.out)));(case aL => have:=LMc25.out;omega);intro v300 w28 ho hb hg hat;rw [← Ny299.out] at ho;have n0_:=Aside0.mk (IsS46.grownA HI0.out (by exact HI0.out) hg (IsS46.own_ne HI0.out HO_3.out (by decide)));have n1_:=Aside0.mk (below_weaken (by exact HB.out) HL.out hb);have n2_:=Aside0.mk (KeepBut.trans (by exact HK.out) (KeepBut.of_grown hg g) (Kd.R_base2 HO_3.out));have n3_:=Aside0.mk (ho);clear HI0;clear HB;clear HK;clear HO_3;have HI0:=n0_;have HB:=n1_;have HK:=n2_;have HO301:=n3_;clear n0_ n1_ n2_ n3_;clear ho hb hg hat))
      go_ret
      exact ⟨_,by rfl,by exact HO301.out,by exact HI0.out,by exact HB.out,by exact HK.out⟩
     ·rw [if_neg c25] at H
      exact absurd H (by simp)
    ·rw [if_neg c23] at H
     have c23b0 : (t289 == 0) = false:=beq_eq_false_iff_ne.mpr c23
     have c23b1 : (t289 != 0) = true:=bne_iff_ne.mpr c23
     by_cases c29 : t289 = 1
     ·rw [if_pos c29] at H
      have c29b0 : (t289 == 1) = true:=beq_iff_eq.mpr c29
      have c29b1 : (t289 != 1) = false:=bne_eq_false_iff_eq.mpr c29
      clear c29
      by_cases c30 : (x3_1.length : Int) > 0
      ·rw [if_pos c30] at H
       have c30b0 : decide (0 < (x3_1.length : Int)) = true:=decide_eq_true c30
       have c30b1 : decide (0 < x3_1.length) = true:=decide_eq_true (by omega)
       clear c30
       replace H:=Option.bind_eq_some_iff.mp H
       obtain ⟨⟨t302,t303,t304⟩,A310,H⟩ := H
       replace H : (if 0 ≤ t302 then (if t302 < (x3_1.length : Int) then (if x3_1.length < 2932031007402 then (some ((x3_1 ++ [(⟨(rd_T33 x3_1 t302).f0,(rd_T33 x3_1 t302).f1,(rd_T33 x3_1 t302).f2,(rd_T33 x3_1 t302).f3,(rd_T33 x3_1 t302).f4⟩ : S33)]),t303,t304)) else (none)) else (none)) else (none)) = some (r1,r2,r3):=H
       have A31:=Aside0.mk A310
       clear A310
       by_cases c32 : 0 ≤ t302
       ·rw [if_pos c32] at H
        have c32b0 : decide (0 ≤ t302) = true:=decide_eq_true c32
        clear c32
        by_cases c33 : t302 < (x3_1.length : Int)
        ·rw [if_pos c33] at H
         have c33b0 : decide (t302 < (x3_1.length : Int)) = true:=decide_eq_true c33
         clear c33
         by_cases c34 : x3_1.length < 2932031007402
         ·rw [if_pos c34] at H
          have LMc34:=Aside0.mk c34
          clear c34
          obtain ⟨y306,hy306⟩ : ∃ y_ : List (S33),y_ = (x3_1 ++ [(⟨(rd_T33 x3_1 t302).f0,(rd_T33 x3_1 t302).f1,(rd_T33 x3_1 t302).f2,(rd_T33 x3_1 t302).f3,(rd_T33 x3_1 t302).f4⟩ : S33)]):=⟨_,rfl⟩
          replace H : (some (y306,t303,t304)) = some (r1,r2,r3):=by (rw [hy306];with_reducible exact H)
          have Ny306:=Aside0.mk hy306
          clear hy306
          simp only [Option.some.injEq,Prod.mk.injEq] at H
          obtain ⟨rfl,rfl,rfl⟩ := H
          go_wp2_with (first | ((with_reducible refine gate_callee (f:=21) rfl ?_);refine goesL_ (some 26) rfl rfl Try.func21 (by kernel_rfl) rfl #[.pointer (some ⟨g,0,none⟩), .int .i64 20] rfl (by (try simp only [List.map_toArray,List.map_cons,List.map_nil]);rfl) ?_;(with_reducible refine (spec_l1Cur_pick.calls g s0_0 x1001_1 x1002_1 20 t289 t290 t291 w0 _ ?side1 ?side2 A22.out).mono ?_);(case side1 => exact HI0.out);(case side2 => exact HB.out);rintro e w35 ⟨rfl,hi,hb,hk⟩;refine ⟨_,rfl, ?_⟩;have n0_:=Aside0.mk (Kd.R_mono (Kd.R_keep (IsS46.apart (show IsS46 w0 _ g s0_0 x1001_1 x1002_1 from by exact HI0.out) (by exact HO_3.out) (by decide)) hk (fun _ h => h.2)) (fun _ h => h.1));have n1_:=Aside0.mk (KeepBut.trans (by exact HK.out) hk (.inl rfl));have n2_:=Aside0.mk (hb);have n3_:=Aside0.mk (hi);clear HO_3;clear HK;clear HB;clear HI0;have HO_3:=n0_;have HK:=n1_;have HB:=n2_;have HI0:=n3_;clear n0_ n1_ n2_ n3_;(try clear hb);(try clear hk);(try clear hi);obtain ⟨Ao36,co36,eo36⟩ := Kd.R_slice HO_3.out;subst eo36) | ((with_reducible refine gate_callee (f:=21) rfl ?_);refine goesL_ (some 44) rfl rfl Try.func21 (by kernel_rfl) rfl #[.pointer (some ⟨g,0,none⟩), .int .i64 (x3_1.length : Int)] rfl (by (try simp only [List.map_toArray,List.map_cons,List.map_nil]);rfl) ?_;(with_reducible refine (spec_l1Cur_pick.calls g s0_0 t290 t291 (x3_1.length : Int) t302 t303 t304 w0 _ ?side1 ?side2 A31.out).mono ?_);(case side1 => exact HI0.out);(case side2 => exact HB.out);rintro e w37 ⟨rfl,hi,hb,hk⟩;refine ⟨_,rfl, ?_⟩;have n0_:=Aside0.mk (Kd.R_mono (Kd.R_keep (IsS46.apart (show IsS46 w0 _ g s0_0 t290 t291 from by exact HI0.out) (by exact HO_3.out) (by decide)) hk (fun _ h => h.2)) (fun _ h => h.1));have n1_:=Aside0.mk (KeepBut.trans (by exact HK.out) hk (.inl rfl));have n2_:=Aside0.mk (hb);have n3_:=Aside0.mk (hi);clear HO_3;clear HK;clear HB;clear HI0;have HO_3:=n0_;have HK:=n1_;have HB:=n2_;have HI0:=n3_;clear n0_ n1_ n2_ n3_;(try clear hb);(try clear hk);(try clear hi);have p305 : 0 ≤ (t302 : Int):=of_decide_eq_true (by (with_reducible assumption));have q305 : t302 < (x3_1.length : Int):=of_decide_eq_true (by (with_reducible assumption));obtain ⟨ad305,e305,hx305_0,hx305_1,hx305_2,hx305_3,hx305_4⟩ := at_T33 (Kd.R_reads' HO_3.out).2.2 t302 p305 q305;cases e305;replace p305:=eq_true p305;replace q305:=eq_true q305) | ((with_reducible refine gate_builtin (b := .append) (xs:=#[.tmp 39, .tmp 47]) rfl ?_);at_builtin;refine Kd.R_append k33 w.heap.size rfl (.tmp 39) (.tmp 47) 25 33 (.agg #[(.string ⟨#[]⟩),(.int .i64 0),(.int .i64 0),(.int .i64 0),(.int .i64 0)]) 48 rfl Try.underlying25 info33 rfl (by decide) (by omega) (.slice (some ad305) x3_1.length co36) x3_1 (⟨(rd_T33 x3_1 t302).f0,(rd_T33 x3_1 t302).f1,(rd_T33 x3_1 t302).f2,(rd_T33 x3_1 t302).f3,(rd_T33 x3_1 t302).f4⟩ : S33) [.string ((rd_T33 x3_1 t302).f0), .int .i64 ((rd_T33 x3_1 t302).f1), .int .i64 ((rd_T33 x3_1 t302).f2), .int .i64 ((rd_T33 x3_1 t302).f3), .int .i64 ((rd_T33 x3_1 t302).f4)] (fun _ => True) (fun _ => False) rfl rfl ?aP (fun _ hk => hk.elim) ?aF ?aO (Below.refl _ _) ?aS ?aL ?_;(case aP => exact k33_mkM _ _ _ (⟨(rd_T33 x3_1 t302).f0,(rd_T33 x3_1 t302).f1,(rd_T33 x3_1 t302).f2,(rd_T33 x3_1 t302).f3,(rd_T33 x3_1 t302).f4⟩ : S33));(case aF => exact (fun _ _ => trivial));(case aO => exact (by exact HO_3.out));(case aS => exact (keep_size (w:=w) (g:=g) (row:=none) (by exact HK.out)));(case aL => have:=LMc34.out;omega);intro v307 w38 ho hb hg hat;rw [← Ny306.out] at ho;have n0_:=Aside0.mk (IsS46.grownA HI0.out (by exact HI0.out) hg (IsS46.own_ne HI0.out HO_3.out (by decide)));have n1_:=Aside0.mk (below_weaken (by exact HB.out) HL.out hb);have n2_:=Aside0.mk (KeepBut.trans (by exact HK.out) (KeepBut.of_grown hg g) (Kd.R_base2 HO_3.out));have n3_:=Aside0.mk (ho);clear HI0;clear HB;clear HK;clear HO_3;have HI0:=n0_;have HB:=n1_;have HK:=n2_;have HO308:=n3_;clear n0_ n1_ n2_ n3_;clear ho hb hg hat))
          go_ret
          exact ⟨_,by rfl,by exact HO308.out,by exact HI0.out,by exact HB.out,by exact HK.out⟩
         ·rw [if_neg c34] at H
          exact absurd H (by simp)
        ·rw [if_neg c33] at H
         exact absurd H (by simp)
       ·rw [if_neg c32] at H
        exact absurd H (by simp)
      ·rw [if_neg c30] at H
       have c30b0 : decide (0 < (x3_1.length : Int)) = false:=decide_eq_false c30
       have c30b1 : decide (0 < x3_1.length) = false:=decide_eq_false (by omega)
       clear c30
       simp only [Option.some.injEq,Prod.mk.injEq] at H
       obtain ⟨rfl,rfl,rfl⟩ := H
       go_wp2_with (((with_reducible refine gate_callee (f:=21) rfl ?_);refine goesL_ (some 26) rfl rfl Try.func21 (by kernel_rfl) rfl #[.pointer (some ⟨g,0,none⟩), .int .i64 20] rfl (by (try simp only [List.map_toArray,List.map_cons,List.map_nil]);rfl) ?_;(with_reducible refine (spec_l1Cur_pick.calls g s0_0 x1001_1 x1002_1 20 t289 t290 t291 w0 _ ?side1 ?side2 A22.out).mono ?_);(case side1 => exact HI0.out);(case side2 => exact HB.out);rintro e w39 ⟨rfl,hi,hb,hk⟩;refine ⟨_,rfl, ?_⟩;have n0_:=Aside0.mk (Kd.R_mono (Kd.R_keep (IsS46.apart (show IsS46 w0 _ g s0_0 x1001_1 x1002_1 from by exact HI0.out) (by exact HO_3.out) (by decide)) hk (fun _ h => h.2)) (fun _ h => h.1));have n1_:=Aside0.mk (KeepBut.trans (by exact HK.out) hk (.inl rfl));have n2_:=Aside0.mk (hb);have n3_:=Aside0.mk (hi);clear HO_3;clear HK;clear HB;clear HI0;have HO_3:=n0_;have HK:=n1_;have HB:=n2_;have HI0:=n3_;clear n0_ n1_ n2_ n3_;(try clear hb);(try clear hk);(try clear hi);obtain ⟨Ao40,co40,eo40⟩ := Kd.R_slice HO_3.out;subst eo40))
       go_ret
       exact ⟨_,by rfl,by exact HO_3.out,by exact HI0.out,by exact HB.out,by exact HK.out⟩
     ·rw [if_neg c29] at H
      have c29b0 : (t289 == 1) = false:=beq_eq_false_iff_ne.mpr c29
      have c29b1 : (t289 != 1) = true:=bne_iff_ne.mpr c29
      by_cases c41 : t289 = 2
      ·rw [if_pos c41] at H
       have c41b0 : (t289 == 2) = true:=beq_iff_eq.mpr c41
       have c41b1 : (t289 != 2) = false:=bne_eq_false_iff_eq.mpr c41
       clear c41
       have H':=Aside0.mk H
       clear H
       go_wp2_with (((with_reducible refine gate_callee (f:=21) rfl ?_);refine goesL_ (some 26) rfl rfl Try.func21 (by kernel_rfl) rfl #[.pointer (some ⟨g,0,none⟩), .int .i64 20] rfl (by (try simp only [List.map_toArray,List.map_cons,List.map_nil]);rfl) ?_;(with_reducible refine (spec_l1Cur_pick.calls g s0_0 x1001_1 x1002_1 20 t289 t290 t291 w0 _ ?side1 ?side2 A22.out).mono ?_);(case side1 => exact HI0.out);(case side2 => exact HB.out);rintro e w42 ⟨rfl,hi,hb,hk⟩;refine ⟨_,rfl, ?_⟩;have n0_:=Aside0.mk (Kd.R_mono (Kd.R_keep (IsS46.apart (show IsS46 w0 _ g s0_0 x1001_1 x1002_1 from by exact HI0.out) (by exact HO_3.out) (by decide)) hk (fun _ h => h.2)) (fun _ h => h.1));have n1_:=Aside0.mk (KeepBut.trans (by exact HK.out) hk (.inl rfl));have n2_:=Aside0.mk (hb);have n3_:=Aside0.mk (hi);clear HO_3;clear HK;clear HB;clear HI0;have HO_3:=n0_;have HK:=n1_;have HB:=n2_;have HI0:=n3_;clear n0_ n1_ n2_ n3_;(try clear hb);(try clear hk);(try clear hi)))
       (skip)
       go_loopg [3,6] k1 (fun kq v3 v6 w' => ∃ (x3_2 : List (S33)) (x6_2 : Int) (x1001_2 : Int) (x1002_2 : Int),v6 = .int .i64 x6_2 ∧ Aside0 (spec_l1Cur_containers.l1 kq x3_2 x6_2 s0_0 x1001_2 x1002_2 = some (r1,r2,r3)) ∧ Aside0 (kq ≤ k1) ∧ Aside0 (Kd.R k33 33 w' w.heap.size (fun _ => True) v3 x3_2) ∧ Aside0 (IsS46 w0 w' g s0_0 x1001_2 x1002_2) ∧ Aside0 (KeepBut w w' g none) ∧ Aside0 (Below w0.heap.size w0 w'))
       case atStart => exact ⟨(x3_1),(0),(t290),(t291),(by rfl),H',⟨Nat.le_refl _⟩,⟨by exact HO_3.out⟩,⟨by exact HI0.out⟩,⟨by exact HK.out⟩,⟨by exact HB.out⟩⟩
       case round =>
        clear H'
        try clear c1
        try clear c2
        try clear p2
        try clear c3
        try clear p3
        try clear q3
        try clear hx3
        try clear c4
        try clear c6
        try clear c6b0
        try clear p6
        try clear c9
        try clear c9b0
        try clear c10
        try clear c13
        try clear c18
        try clear c19
        try clear c21
        try clear c23
        try clear c23b0
        try clear c23b1
        try clear c25
        try clear c29
        try clear c29b0
        try clear c29b1
        try clear c30
        try clear c30b0
        try clear c30b1
        try clear p30
        try clear q30
        try clear hx30
        try clear c32
        try clear c32b0
        try clear c33
        try clear c33b0
        try clear c34
        try clear c35
        try clear c36
        try clear c41
        try clear c41b0
        try clear c41b1
        try clear hcz14_0
        try clear hcz14_1
        try clear hcz14_2
        try clear hcz14_3
        try clear hcz14_4
        try clear hcz20_0
        try clear hcz20_1
        try clear hcz20_2
        try clear hcz20_3
        try clear hcz20_4
        try clear hfz14_0
        try clear hfz14_1
        try clear hfz14_2
        try clear hfz14_3
        try clear hfz14_4
        try clear hfz20_0
        try clear hfz20_1
        try clear hfz20_2
        try clear hfz20_3
        try clear hfz20_4
        try clear hx305_0
        try clear hx305_1
        try clear hx305_2
        try clear hx305_3
        try clear hx305_4
        try clear p2
        try clear p305
        try clear q305
        obtain ⟨x3_2,x6_2,x1001_2,x1002_2,rfl,HA,HK2,HO_3,HI0,HK,HB⟩ := hrel
        cases gk with
        | zero => exact absurd HA.out (by simp [spec_l1Cur_containers.l1])
        | succ k2 =>
         have H:=HA.out
         clear HA
         simp only [spec_l1Cur_containers.l1] at H
         replace H:=Option.bind_eq_some_iff.mp H
         obtain ⟨⟨t309,t310,t311⟩,A430,H⟩ := H
         replace H : (if (x3_2.length : Int) < (wrap64 (12 + t309)) then (if x6_2 < 14 then ((spec_l2Number.f k2 (⟨#[77,65,88]⟩ : ByteArray) x6_2).bind fun t312 => (if x3_2.length < 2932031007402 then (spec_l1Cur_containers.l1 k2 (x3_2 ++ [(⟨t312,1,wrap64 (100 + x6_2),1,wrap64 (1 + (Int.tmod x6_2 9))⟩ : S33)]) (wrap64 (x6_2 + 1)) s0_0 t310 t311) else (none))) else (some (x3_2,t310,t311))) else (some (x3_2,t310,t311))) = some (r1,r2,r3):=H
         have A43:=Aside0.mk A430
         clear A430
         by_cases c44 : (x3_2.length : Int) < (wrap64 (12 + t309))
         ·rw [if_pos c44] at H
          have c44b0 : decide ((x3_2.length : Int) < (wrap64 (12 + t309))) = true:=decide_eq_true c44
          clear c44
          by_cases c45 : x6_2 < 14
          ·rw [if_pos c45] at H
           have c45b0 : decide (x6_2 < 14) = true:=decide_eq_true c45
           clear c45
           replace H:=Option.bind_eq_some_iff.mp H
           obtain ⟨t312,A460,H⟩ := H
           replace H : (if x3_2.length < 2932031007402 then (spec_l1Cur_containers.l1 k2 (x3_2 ++ [(⟨t312,1,wrap64 (100 + x6_2),1,wrap64 (1 + (Int.tmod x6_2 9))⟩ : S33)]) (wrap64 (x6_2 + 1)) s0_0 t310 t311) else (none)) = some (r1,r2,r3):=H
           have A46:=Aside0.mk A460
           clear A460
           by_cases c47 : x3_2.length < 2932031007402
           ·rw [if_pos c47] at H
            have LMc47:=Aside0.mk c47
            clear c47
            obtain ⟨y313,hy313⟩ : ∃ y_ : List (S33),y_ = (x3_2 ++ [(⟨t312,1,wrap64 (100 + x6_2),1,wrap64 (1 + (Int.tmod x6_2 9))⟩ : S33)]):=⟨_,rfl⟩
            replace H : (spec_l1Cur_containers.l1 k2 y313 (wrap64 (x6_2 + 1)) s0_0 t310 t311) = some (r1,r2,r3):=by (rw [hy313];with_reducible exact H)
            have Ny313:=Aside0.mk hy313
            clear hy313
            have H':=Aside0.mk H
            clear H
            obtain ⟨Ao48,co48,eo48⟩ := Kd.R_slice HO_3.out
            subst eo48
            go_wp2_with (first | ((with_reducible refine gate_callee (f:=21) rfl ?_);refine goesL_ (some 54) rfl rfl Try.func21 (by kernel_rfl) rfl #[.pointer (some ⟨g,0,none⟩), .int .i64 2] rfl (by (try simp only [List.map_toArray,List.map_cons,List.map_nil]);rfl) ?_;(with_reducible refine (spec_l1Cur_pick.calls g s0_0 x1001_2 x1002_2 2 t309 t310 t311 w0 _ ?side1 ?side2 A43.out).mono ?_);(case side1 => exact HI0.out);(case side2 => exact HB.out);rintro e w49 ⟨rfl,hi,hb,hk⟩;refine ⟨_,rfl, ?_⟩;have n0_:=Aside0.mk (Kd.R_mono (Kd.R_keep (IsS46.apart (show IsS46 w0 _ g s0_0 x1001_2 x1002_2 from by exact HI0.out) (by exact HO_3.out) (by decide)) hk (fun _ h => h.2)) (fun _ h => h.1));have n1_:=Aside0.mk (KeepBut.trans (by exact HK.out) hk (.inl rfl));have n2_:=Aside0.mk (hb);have n3_:=Aside0.mk (hi);clear HO_3;clear HK;clear HB;clear HI0;have HO_3:=n0_;have HK:=n1_;have HB:=n2_;have HI0:=n3_;clear n0_ n1_ n2_ n3_;(try clear hb);(try clear hk);(try clear hi)) | ((with_reducible refine gate_callee (f:=37) rfl ?_);refine goesL_ (some 65) rfl rfl Try.func37 (by kernel_rfl) rfl #[.string (⟨#[77,65,88]⟩ : ByteArray), .int .i64 x6_2] rfl (by (try simp only [List.map_toArray,List.map_cons,List.map_nil]);rfl) ?_;(with_reducible refine (spec_l2Number.calls k2 (⟨#[77,65,88]⟩ : ByteArray) x6_2 t312 _ A46.out).mono ?_);rintro e w50 ⟨rfl,hb⟩;refine ⟨_,rfl, ?_⟩;have n0_:=Aside0.mk (Kd.R_below (by exact HO_3.out) hb);have n1_:=Aside0.mk (IsS46.below (by exact HI0.out) hb);have n2_:=Aside0.mk (KeepBut.trans (by exact HK.out) (KeepBut.of_below hb g none) (.inl rfl));have n3_:=Aside0.mk (below_step (by exact HB.out) hb);clear HO_3;clear HI0;clear HK;clear HB;have HO_3:=n0_;have HI0:=n1_;have HK:=n2_;have HB:=n3_;clear n0_ n1_ n2_ n3_;(try clear hb)) | ((with_reducible refine gate_builtin (b := .append) (xs:=#[.tmp 63, .tmp 72]) rfl ?_);at_builtin;refine Kd.R_append k33 w.heap.size rfl (.tmp 63) (.tmp 72) 25 33 (.agg #[(.string ⟨#[]⟩),(.int .i64 0),(.int .i64 0),(.int .i64 0),(.int .i64 0)]) 48 rfl Try.underlying25 info33 rfl (by decide) (by omega) (.slice Ao48 x3_2.length co48) x3_2 (⟨t312,1,wrap64 (100 + x6_2),1,wrap64 (1 + (Int.tmod x6_2 9))⟩ : S33) [.string t312, .int .i64 1, .int .i64 (wrap64 (100 + x6_2)), .int .i64 1, .int .i64 (wrap64 (1 + (Int.tmod x6_2 9)))] (fun _ => True) (fun _ => False) rfl rfl ?aP (fun _ hk => hk.elim) ?aF ?aO (Below.refl _ _) ?aS ?aL ?_;(case aP => exact k33_mkM _ _ _ (⟨t312,1,wrap64 (100 + x6_2),1,wrap64 (1 + (Int.tmod x6_2 9))⟩ : S33));(case aF => exact (fun _ _ => trivial));(case aO => exact (by exact HO_3.out));(case aS => exact (keep_size (w:=w) (g:=g) (row:=none) (by exact HK.out)));(case aL => have:=LMc47.out;omega);intro v314 w51 ho hb hg hat;rw [← Ny313.out] at ho;have n0_:=Aside0.mk (IsS46.grownA HI0.out (by exact HI0.out) hg (IsS46.own_ne HI0.out HO_3.out (by decide)));have n1_:=Aside0.mk (below_weaken (by exact HB.out) HL.out hb);have n2_:=Aside0.mk (KeepBut.trans (by exact HK.out) (KeepBut.of_grown hg g) (Kd.R_base2 HO_3.out));have n3_:=Aside0.mk (ho);clear HI0;clear HB;clear HK;clear HO_3;have HI0:=n0_;have HB:=n1_;have HK:=n2_;have HO315:=n3_;clear n0_ n1_ n2_ n3_;clear ho hb hg hat))
            go_roundg k2
            case measure => have:=HK1.out;have:=HK2.out;omega
            case rel => exact ⟨(y313),(wrap64 (x6_2 + 1)),(t310),(t311),(by rfl),H',⟨by have:=HK1.out;have:=HK2.out;omega⟩,⟨by exact HO315.out⟩,⟨by exact HI0.out⟩,⟨by exact HK.out⟩,⟨by exact HB.out⟩⟩
           ·rw [if_neg c47] at H
            exact absurd H (by simp)
          ·rw [if_neg c45] at H
           have c45b0 : decide (x6_2 < 14) = false:=decide_eq_false c45
           clear c45
           simp only [Option.some.injEq,Prod.mk.injEq] at H
           obtain ⟨rfl,rfl,rfl⟩ := H
           obtain ⟨Ao52,co52,eo52⟩ := Kd.R_slice HO_3.out
           subst eo52
           go_wp2_with (((with_reducible refine gate_callee (f:=21) rfl ?_);refine goesL_ (some 54) rfl rfl Try.func21 (by kernel_rfl) rfl #[.pointer (some ⟨g,0,none⟩), .int .i64 2] rfl (by (try simp only [List.map_toArray,List.map_cons,List.map_nil]);rfl) ?_;(with_reducible refine (spec_l1Cur_pick.calls g s0_0 x1001_2 x1002_2 2 t309 t310 t311 w0 _ ?side1 ?side2 A43.out).mono ?_);(case side1 => exact HI0.out);(case side2 => exact HB.out);rintro e w53 ⟨rfl,hi,hb,hk⟩;refine ⟨_,rfl, ?_⟩;have n0_:=Aside0.mk (Kd.R_mono (Kd.R_keep (IsS46.apart (show IsS46 w0 _ g s0_0 x1001_2 x1002_2 from by exact HI0.out) (by exact HO_3.out) (by decide)) hk (fun _ h => h.2)) (fun _ h => h.1));have n1_:=Aside0.mk (KeepBut.trans (by exact HK.out) hk (.inl rfl));have n2_:=Aside0.mk (hb);have n3_:=Aside0.mk (hi);clear HO_3;clear HK;clear HB;clear HI0;have HO_3:=n0_;have HK:=n1_;have HB:=n2_;have HI0:=n3_;clear n0_ n1_ n2_ n3_;(try clear hb);(try clear hk);(try clear hi)))
           go_ret
           exact ⟨_,by rfl,by exact HO_3.out,by exact HI0.out,by exact HB.out,by exact HK.out⟩
         ·rw [if_neg c44] at H
          have c44b0 : decide ((x3_2.length : Int) < (wrap64 (12 + t309))) = false:=decide_eq_false c44
          clear c44
          simp only [Option.some.injEq,Prod.mk.injEq] at H
          obtain ⟨rfl,rfl,rfl⟩ := H
          obtain ⟨Ao54,co54,eo54⟩ := Kd.R_slice HO_3.out
          subst eo54
          go_wp2_with (((with_reducible refine gate_callee (f:=21) rfl ?_);refine goesL_ (some 54) rfl rfl Try.func21 (by kernel_rfl) rfl #[.pointer (some ⟨g,0,none⟩), .int .i64 2] rfl (by (try simp only [List.map_toArray,List.map_cons,List.map_nil]);rfl) ?_;(with_reducible refine (spec_l1Cur_pick.calls g s0_0 x1001_2 x1002_2 2 t309 t310 t311 w0 _ ?side1 ?side2 A43.out).mono ?_);(case side1 => exact HI0.out);(case side2 => exact HB.out);rintro e w55 ⟨rfl,hi,hb,hk⟩;refine ⟨_,rfl, ?_⟩;have n0_:=Aside0.mk (Kd.R_mono (Kd.R_keep (IsS46.apart (show IsS46 w0 _ g s0_0 x1001_2 x1002_2 from by exact HI0.out) (by exact HO_3.out) (by decide)) hk (fun _ h => h.2)) (fun _ h => h.1));have n1_:=Aside0.mk (KeepBut.trans (by exact HK.out) hk (.inl rfl));have n2_:=Aside0.mk (hb);have n3_:=Aside0.mk (hi);clear HO_3;clear HK;clear HB;clear HI0;have HO_3:=n0_;have HK:=n1_;have HB:=n2_;have HI0:=n3_;clear n0_ n1_ n2_ n3_;(try clear hb);(try clear hk);(try clear hi)))
          go_ret
          exact ⟨_,by rfl,by exact HO_3.out,by exact HI0.out,by exact HB.out,by exact HK.out⟩
      ·rw [if_neg c41] at H
       have c41b0 : (t289 == 2) = false:=beq_eq_false_iff_ne.mpr c41
       have c41b1 : (t289 != 2) = true:=bne_iff_ne.mpr c41
       simp only [Option.some.injEq,Prod.mk.injEq] at H
       obtain ⟨rfl,rfl,rfl⟩ := H
       go_wp2_with (((with_reducible refine gate_callee (f:=21) rfl ?_);refine goesL_ (some 26) rfl rfl Try.func21 (by kernel_rfl) rfl #[.pointer (some ⟨g,0,none⟩), .int .i64 20] rfl (by (try simp only [List.map_toArray,List.map_cons,List.map_nil]);rfl) ?_;(with_reducible refine (spec_l1Cur_pick.calls g s0_0 x1001_1 x1002_1 20 t289 t290 t291 w0 _ ?side1 ?side2 A22.out).mono ?_);(case side1 => exact HI0.out);(case side2 => exact HB.out);rintro e w56 ⟨rfl,hi,hb,hk⟩;refine ⟨_,rfl, ?_⟩;have n0_:=Aside0.mk (Kd.R_mono (Kd.R_keep (IsS46.apart (show IsS46 w0 _ g s0_0 x1001_1 x1002_1 from by exact HI0.out) (by exact HO_3.out) (by decide)) hk (fun _ h => h.2)) (fun _ h => h.1));have n1_:=Aside0.mk (KeepBut.trans (by exact HK.out) hk (.inl rfl));have n2_:=Aside0.mk (hb);have n3_:=Aside0.mk (hi);clear HO_3;clear HK;clear HB;clear HI0;have HO_3:=n0_;have HK:=n1_;have HB:=n2_;have HI0:=n3_;clear n0_ n1_ n2_ n3_;(try clear hb);(try clear hk);(try clear hi)))
       go_ret
       exact ⟨_,by rfl,by exact HO_3.out,by exact HI0.out,by exact HB.out,by exact HK.out⟩

/-! ### spec_l1Own: function 26 -/
def spec_l1Own.f (l0 : List Int) : Option (List Int):=(some (([] : List Int) : List Int)).bind fun y316 => (if y316.length + l0.length < 17592186044416 then (some (y316 ++ l0)) else (none))
set_option maxHeartbeats 8000000 in
set_option maxRecDepth 100000 in
theorem spec_l1Own.calls (A0 : Option Addr) (c0 : Nat) (l0 : List Int) (r : List Int) (w : World) (hr0 : Kd.C (Kd.int .i64) w A0 l0.length l0) (hc0 : l0.length ≤ c0) (h : spec_l1Own.f l0 = some r) :
  Calls Try.prog 26 #[.slice A0 l0.length c0] w fun e w' => ∃ v0_ : Value,e = .returned (v0_) ∧ Kd.R (Kd.int .i64) 3 w' w.heap.size (fun _ => True) v0_ r ∧ Below w.heap.size w w':=by
 have HR0:=Aside0.mk hr0
 have HC0:=Aside0.mk hc0
 clear hr0 hc0
 have HB:=Aside0.mk (Below.refl w.heap.size w)
 have H : ((some (([] : List Int) : List Int)).bind fun y316 => (if y316.length + l0.length < 17592186044416 then (some (y316 ++ l0)) else (none))) = some r:=h
 clear h
 obtain ⟨y316,hy316⟩ : ∃ y_ : List Int,y_ = (([] : List Int)):=⟨_,rfl⟩
 replace H : (if y316.length + l0.length < 17592186044416 then (some (y316 ++ l0)) else (none)) = some r:=by (have H2_:=(Option.bind_some _ _).symm.trans H;rw [hy316];with_reducible exact H2_)
 have Ny316:=Aside0.mk hy316
 clear hy316
 by_cases c2 : y316.length + l0.length < 17592186044416
 ·rw [if_pos c2] at H
  have LMc2:=Aside0.mk c2
  clear c2
  obtain ⟨y319,hy319⟩ : ∃ y_ : List Int,y_ = (y316 ++ l0):=⟨_,rfl⟩
  replace H : (some y319) = some r:=by (rw [hy319];with_reducible exact H)
  have Ny319:=Aside0.mk hy319
  clear hy319
  obtain rfl:=Option.some.inj H
  go_enter Try.func26,Try.ntmps26
  go_wp2_with (first | ((with_reducible refine gate_dst (N:=3) rfl ?_);refine Kd.R_lit (Kd.int .i64) _ 3 ?hg (N:=3) ?hd (xs:=([] : List Int)) (inner := []) (ok:=fun _ => True) (okp:=fun _ => True) ?hr ?hp (fun _ hk => hk) trivial (Below.refl _ _) (Nat.le_refl _) (by simp) ?_;(case hd => rfl);(case hg => rfl);(case hr => (go_simp;done));(case hp => exact (Reps.none _ _));intro v317 w3 ho4 hb hg_ hnew_;clear hg_ hnew_;(rw [← Ny316.out] at ho4);have n0_:=Aside0.mk (Kd.R_lower ho4 (below_size (by exact HB.out)));have n1_:=Aside0.mk (below_step (by exact HB.out) hb);clear HB;have HO318:=n0_;have HB:=n1_;clear n0_ n1_;clear hb ho4) | ((with_reducible refine gate_builtin (b := .append) (xs:=#[.tmp 3, .tmp 4]) rfl ?_);at_builtin;refine Kd.R_append_rows (Kd.int .i64) (w0:=w) w.heap.size rfl (.tmp 3) (.tmp 4) 26 3 (.int .i64 0) 8 rfl Try.underlying26 info3 rfl (by decide) (by omega) v317 y316 l0 _ _ _ (fun _ => True) (fun _ => False) rfl rfl ?aO ?aR (fun _ _ h => h) (fun _ h => h.elim) ?aF ?aB ?aS ?aL ?_;(case aR => repeat (exact (Kd.C_below HR0.out HB.out)));(case aB => exact (by exact HB.out));(case aF => exact (fun _ _ => trivial));(case aO => exact (by exact HO318.out));(case aS => exact (below_size (by exact HB.out)));(case aL => have:=LMc2.out;omega);intro v320 w5 ho hb hg hat;rw [← Ny319.out] at ho;have n0_:=Aside0.mk (hb);have n1_:=Aside0.mk (ho);clear HB;clear HO318;have HB:=n0_;have HO321:=n1_;clear n0_ n1_;clear ho hb hg hat))
  go_ret
  exact ⟨_,by rfl,by exact HO321.out,by exact HB.out⟩
 ·rw [if_neg c2] at H
  exact absurd H (by simp)

/-! ### spec_l19Sums: function 55 -/
def spec_l19Sums.l0 : Nat → List (S33) → List Int → Int → Int → Int → Int → Option (Int × Int)
 | 0,_,_,_,_,_,_ => none
 | k + 1,x0,x1,x2,x8,x9,x10 => if x10 < (x1.length : Int) then (if 0 ≤ x10 then (if (rd x1 x10) = x2 then (if x10 < (x0.length : Int) then (spec_l19Sums.l0 k x0 x1 x2 (wrap64 (x8 + ((rd_T33 x0 x10).f1))) (wrap64 (x9 + ((rd_T33 x0 x10).f2))) (wrap64 (x10 + 1))) else (none)) else (spec_l19Sums.l0 k x0 x1 x2 x8 x9 (wrap64 (x10 + 1)))) else (none)) else (some (x8,x9))
def spec_l19Sums.f (k : Nat) (l0 : List (S33)) (l1 : List Int) (a2 : Int) : Option (Int × Int):=spec_l19Sums.l0 k l0 l1 a2 0 0 0
theorem spec_l19Sums.mono_l : ∀ k,(∀ y0 y1 y2 y3 y4 y5,LeO (spec_l19Sums.l0 k y0 y1 y2 y3 y4 y5) (spec_l19Sums.l0 (k + 1) y0 y1 y2 y3 y4 y5))
 | 0 => fun _ _ _ _ _ _ r h => by simp [spec_l19Sums.l0] at h
 | k + 1 => by
  have ih0:=spec_l19Sums.mono_l k
  ·intro y0 y1 y2 y3 y4 y5
   unfold spec_l19Sums.l0
   repeat' first
   | (with_reducible exact ih0 _ _ _ _ _ _)
   | (with_reducible exact LeO.refl _)
   | (with_reducible exact LeO.none _)
   | (with_reducible refine LeO.ite ?_ ?_)
   | (with_reducible refine LeO.bind ?_ (fun _ => ?_))
   | exact ih0 _ _ _ _ _ _
   | exact LeO.none _
   | refine LeO.ite ?_ ?_
   | refine LeO.bind ?_ (fun _ => ?_)
theorem spec_l19Sums.mono : ∀ a0 a1 a2 k,LeO (spec_l19Sums.f k a0 a1 a2) (spec_l19Sums.f (k + 1) a0 a1 a2):=by
 intro a0 a1 a2 k
 have ih0:=spec_l19Sums.mono_l k
 unfold spec_l19Sums.f
 repeat' first
   | (with_reducible exact ih0 _ _ _ _ _ _)
   | (with_reducible exact LeO.refl _)
   | (with_reducible exact LeO.none _)
   | (with_reducible refine LeO.ite ?_ ?_)
   | (with_reducible refine LeO.bind ?_ (fun _ => ?_))
   | exact ih0 _ _ _ _ _ _
   | exact LeO.none _
   | refine LeO.ite ?_ ?_
   | refine LeO.bind ?_ (fun _ => ?_)
set_option maxHeartbeats 8000000 in
set_option maxRecDepth 100000 in
theorem spec_l19Sums.calls (k : Nat) (A0 : Option Addr) (c0 : Nat) (l0 : List (S33)) (A1 : Option Addr) (c1 : Nat) (l1 : List Int) (a2 : Int) (r1 : Int) (r2 : Int) (w : World) (hr0 : Kd.C k33 w A0 l0.length l0) (hc0 : l0.length ≤ c0) (hr1 : Kd.C (Kd.int .i64) w A1 l1.length l1) (hc1 : l1.length ≤ c1) (h : spec_l19Sums.f k l0 l1 a2 = some (r1,r2)) :
  Calls Try.prog 55 #[.slice A0 l0.length c0, .slice A1 l1.length c1, .int .i64 a2] w fun e w' => e = .returned (.tuple #[.int .i64 r1, .int .i64 r2]) ∧ Drawn0 w w':=by
 have HR0:=Aside0.mk hr0
 have HC0:=Aside0.mk hc0
 clear hr0 hc0
 have HR1:=Aside0.mk hr1
 have HC1:=Aside0.mk hc1
 clear hr1 hc1
 have H : (spec_l19Sums.l0 k l0 l1 a2 0 0 0) = some (r1,r2):=h
 clear h
 have H':=Aside0.mk H
 clear H
 go_enter Try.func55,Try.ntmps55
 go_wp2
 go_loopg [8,9,10] k (fun kq v8 v9 v10 w' => ∃ (x8_1 : Int) (x9_1 : Int) (x10_1 : Int),v8 = .int .i64 x8_1 ∧ v9 = .int .i64 x9_1 ∧ v10 = .int .i64 x10_1 ∧ Aside0 (spec_l19Sums.l0 kq l0 l1 a2 x8_1 x9_1 x10_1 = some (r1,r2)) ∧ Aside0 (kq ≤ k) ∧ Drawn0 w w')
 case atStart => exact ⟨(0),(0),(0),(by rfl),(by rfl),(by rfl),H',⟨Nat.le_refl _⟩,by repeat (exact Drawn0.refl _)⟩
 case round =>
  clear H'
  try clear c1
  try clear p2
  obtain ⟨x8_1,x9_1,x10_1,rfl,rfl,rfl,HA,HK1,⟨m1,rfl⟩⟩ := hrel
  cases gk with
  | zero => exact absurd HA.out (by simp [spec_l19Sums.l0])
  | succ k1 =>
   have H:=HA.out
   clear HA
   simp only [spec_l19Sums.l0] at H
   by_cases c4 : x10_1 < (l1.length : Int)
   ·rw [if_pos c4] at H
    have c4b0 : decide (x10_1 < (l1.length : Int)) = true:=decide_eq_true c4
    clear c4
    by_cases c5 : 0 ≤ x10_1
    ·rw [if_pos c5] at H
     have c5b0 : decide (0 ≤ x10_1) = true:=decide_eq_true c5
     clear c5
     by_cases c6 : (rd l1 x10_1) = a2
     ·rw [if_pos c6] at H
      have c6b0 : ((rd l1 x10_1) == a2) = true:=beq_iff_eq.mpr c6
      have c6b1 : ((rd l1 x10_1) != a2) = false:=bne_eq_false_iff_eq.mpr c6
      clear c6
      by_cases c7 : x10_1 < (l0.length : Int)
      ·rw [if_pos c7] at H
       have c7b0 : decide (x10_1 < (l0.length : Int)) = true:=decide_eq_true c7
       clear c7
       have H':=Aside0.mk H
       clear H
       have p322 : 0 ≤ (x10_1 : Int):=of_decide_eq_true (by (with_reducible assumption))
       have q322 : x10_1 < (l1.length : Int):=of_decide_eq_true (by (with_reducible assumption))
       obtain ⟨ad322,e322,hx322_0⟩ := Kd.at_int HR1.out x10_1 p322 q322
       cases e322
       replace p322:=eq_true p322
       replace q322:=eq_true q322
       have p323 : 0 ≤ (x10_1 : Int):=of_decide_eq_true (by (with_reducible assumption))
       have q323 : x10_1 < (l0.length : Int):=of_decide_eq_true (by (with_reducible assumption))
       obtain ⟨ad323,e323,hx323_0,hx323_1,hx323_2,hx323_3,hx323_4⟩ := at_T33 HR0.out x10_1 p323 q323
       cases e323
       replace p323:=eq_true p323
       replace q323:=eq_true q323
       have p324 : 0 ≤ (x10_1 : Int):=of_decide_eq_true (by (with_reducible assumption))
       have q324 : x10_1 < (l0.length : Int):=of_decide_eq_true (by (with_reducible assumption))
       obtain ⟨ad324,e324,hx324_0,hx324_1,hx324_2,hx324_3,hx324_4⟩ := at_T33 HR0.out x10_1 p324 q324
       obtain rfl : ad323 = ad324:=(by injection e324)
       replace p324:=eq_true p324
       replace q324:=eq_true q324
       go_wp2
       go_roundg k1
       case measure => have:=HK1.out;omega
       case rel => exact ⟨(wrap64 (x8_1 + ((rd_T33 l0 x10_1).f1))),(wrap64 (x9_1 + ((rd_T33 l0 x10_1).f2))),(wrap64 (x10_1 + 1)),(by rfl),(by rfl),(by rfl),H',⟨by have:=HK1.out;omega⟩,by repeat (first | exact Drawn0.refl _ | apply Drawn0.step)⟩
      ·rw [if_neg c7] at H
       exact absurd H (by simp)
     ·rw [if_neg c6] at H
      have c6b0 : ((rd l1 x10_1) == a2) = false:=beq_eq_false_iff_ne.mpr c6
      have c6b1 : ((rd l1 x10_1) != a2) = true:=bne_iff_ne.mpr c6
      have H':=Aside0.mk H
      clear H
      have p322 : 0 ≤ (x10_1 : Int):=of_decide_eq_true (by (with_reducible assumption))
      have q322 : x10_1 < (l1.length : Int):=of_decide_eq_true (by (with_reducible assumption))
      obtain ⟨ad322,e322,hx322_0⟩ := Kd.at_int HR1.out x10_1 p322 q322
      cases e322
      replace p322:=eq_true p322
      replace q322:=eq_true q322
      go_wp2
      go_roundg k1
      case measure => have:=HK1.out;omega
      case rel => exact ⟨(x8_1),(x9_1),(wrap64 (x10_1 + 1)),(by rfl),(by rfl),(by rfl),H',⟨by have:=HK1.out;omega⟩,by repeat (first | exact Drawn0.refl _ | apply Drawn0.step)⟩
    ·rw [if_neg c5] at H
     exact absurd H (by simp)
   ·rw [if_neg c4] at H
    have c4b0 : decide (x10_1 < (l1.length : Int)) = false:=decide_eq_false c4
    clear c4
    simp only [Option.some.injEq,Prod.mk.injEq] at H
    obtain ⟨rfl,rfl⟩ := H
    go_wp2
    go_ret2
    exact ⟨by rfl,by repeat (first | exact Drawn0.refl _ | apply Drawn0.step)⟩

/-! ### spec_l19Fits: function 45 -/
def spec_l19Fits.l0 : Nat → List (S60) → List (S33) → List Int → Int → Option (Bool)
 | 0,_,_,_,_ => none
 | k + 1,x0,x1,x2,x7 => if x7 < (x0.length : Int) then ((spec_l19Sums.f k x1 x2 x7).bind fun bt325 => (if 0 ≤ x7 then (if bt325.1 > ((rd_T60 x0 x7).f0) then (some false) else (if bt325.2 > ((rd_T60 x0 x7).f1) then (some false) else (spec_l19Fits.l0 k x0 x1 x2 (wrap64 (x7 + 1))))) else (none))) else (some true)
def spec_l19Fits.f (k : Nat) (l0 : List (S60)) (l1 : List (S33)) (l2 : List Int) : Option (Bool):=spec_l19Fits.l0 k l0 l1 l2 0
theorem spec_l19Fits.mono_l : ∀ k,(∀ y0 y1 y2 y3,LeO (spec_l19Fits.l0 k y0 y1 y2 y3) (spec_l19Fits.l0 (k + 1) y0 y1 y2 y3))
 | 0 => fun _ _ _ _ r h => by simp [spec_l19Fits.l0] at h
 | k + 1 => by
  have ih0:=spec_l19Fits.mono_l k
  ·intro y0 y1 y2 y3
   unfold spec_l19Fits.l0
   repeat' first
   | (with_reducible exact ih0 _ _ _ _)
   | (with_reducible exact spec_l19Sums.mono _ _ _ _)
   | (with_reducible exact LeO.refl _)
   | (with_reducible exact LeO.none _)
   | (with_reducible refine LeO.ite ?_ ?_)
   | (with_reducible refine LeO.bind ?_ (fun _ => ?_))
   | exact ih0 _ _ _ _
   | exact spec_l19Sums.mono _ _ _ _
   | exact LeO.none _
   | refine LeO.ite ?_ ?_
   | refine LeO.bind ?_ (fun _ => ?_)
theorem spec_l19Fits.mono : ∀ a0 a1 a2 k,LeO (spec_l19Fits.f k a0 a1 a2) (spec_l19Fits.f (k + 1) a0 a1 a2):=by
 intro a0 a1 a2 k
 have ih0:=spec_l19Fits.mono_l k
 unfold spec_l19Fits.f
 repeat' first
   | (with_reducible exact ih0 _ _ _ _)
   | (with_reducible exact spec_l19Sums.mono _ _ _ _)
   | (with_reducible exact LeO.refl _)
   | (with_reducible exact LeO.none _)
   | (with_reducible refine LeO.ite ?_ ?_)
   | (with_reducible refine LeO.bind ?_ (fun _ => ?_))
   | exact ih0 _ _ _ _
   | exact spec_l19Sums.mono _ _ _ _
   | exact LeO.none _
   | refine LeO.ite ?_ ?_
   | refine LeO.bind ?_ (fun _ => ?_)
set_option maxHeartbeats 8000000 in
set_option maxRecDepth 100000 in
theorem spec_l19Fits.calls (k : Nat) (A0 : Option Addr) (c0 : Nat) (l0 : List (S60)) (A1 : Option Addr) (c1 : Nat) (l1 : List (S33)) (A2 : Option Addr) (c2 : Nat) (l2 : List Int) (r : Bool) (w : World) (hr0 : Kd.C k60 w A0 l0.length l0) (hc0 : l0.length ≤ c0) (hr1 : Kd.C k33 w A1 l1.length l1) (hc1 : l1.length ≤ c1) (hr2 : Kd.C (Kd.int .i64) w A2 l2.length l2) (hc2 : l2.length ≤ c2) (h : spec_l19Fits.f k l0 l1 l2 = some r) :
  Calls Try.prog 45 #[.slice A0 l0.length c0, .slice A1 l1.length c1, .slice A2 l2.length c2] w fun e w' => e = .returned (.bool r) ∧ Drawn0 w w':=by
 have HR0:=Aside0.mk hr0
 have HC0:=Aside0.mk hc0
 clear hr0 hc0
 have HR1:=Aside0.mk hr1
 have HC1:=Aside0.mk hc1
 clear hr1 hc1
 have HR2:=Aside0.mk hr2
 have HC2:=Aside0.mk hc2
 clear hr2 hc2
 have H : (spec_l19Fits.l0 k l0 l1 l2 0) = some r:=h
 clear h
 have H':=Aside0.mk H
 clear H
 go_enter Try.func45,Try.ntmps45
 go_wp2
 go_loopg [7] k (fun kq v7 w' => ∃ (x7_1 : Int),v7 = .int .i64 x7_1 ∧ Aside0 (spec_l19Fits.l0 kq l0 l1 l2 x7_1 = some r) ∧ Aside0 (kq ≤ k) ∧ Drawn0 w w')
 case atStart => exact ⟨(0),(by rfl),H',⟨Nat.le_refl _⟩,by repeat (exact Drawn0.refl _)⟩
 case round =>
  clear H'
  try clear c1
  try clear c2
  try clear p2
  obtain ⟨x7_1,rfl,HA,HK1,⟨m1,rfl⟩⟩ := hrel
  cases gk with
  | zero => exact absurd HA.out (by simp [spec_l19Fits.l0])
  | succ k1 =>
   have H:=HA.out
   clear HA
   simp only [spec_l19Fits.l0] at H
   by_cases c4 : x7_1 < (l0.length : Int)
   ·rw [if_pos c4] at H
    have c4b0 : decide (x7_1 < (l0.length : Int)) = true:=decide_eq_true c4
    clear c4
    replace H:=Option.bind_eq_some_iff.mp H
    obtain ⟨⟨t325,t326⟩,A50,H⟩ := H
    replace H : (if 0 ≤ x7_1 then (if t325 > ((rd_T60 l0 x7_1).f0) then (some false) else (if t326 > ((rd_T60 l0 x7_1).f1) then (some false) else (spec_l19Fits.l0 k1 l0 l1 l2 (wrap64 (x7_1 + 1))))) else (none)) = some r:=H
    have A5:=Aside0.mk A50
    clear A50
    by_cases c6 : 0 ≤ x7_1
    ·rw [if_pos c6] at H
     have c6b0 : decide (0 ≤ x7_1) = true:=decide_eq_true c6
     clear c6
     by_cases c7 : t325 > ((rd_T60 l0 x7_1).f0)
     ·rw [if_pos c7] at H
      have c7b0 : decide (((rd_T60 l0 x7_1).f0) < t325) = true:=decide_eq_true c7
      clear c7
      obtain rfl:=Option.some.inj H
      go_wp2_with (((with_reducible refine gate_callee (f:=55) rfl ?_);refine goesL_ (some 20) rfl rfl Try.func55 (by kernel_rfl) rfl #[.slice A1 l1.length c1, .slice A2 l2.length c2, .int .i64 x7_1] rfl (by (try simp only [List.map_toArray,List.map_cons,List.map_nil]);rfl) ?_;(with_reducible refine (spec_l19Sums.calls k1 _ _ l1 _ _ l2 x7_1 t325 t326 _ ?side1 ?side2 ?side3 ?side4 A5.out).mono ?_);(case side1 => repeat (exact HR1.out));(case side2 => exact HC1.out);(case side3 => repeat (exact HR2.out));(case side4 => exact HC2.out);rintro e w' ⟨rfl,⟨nd,rfl⟩⟩;refine ⟨_,rfl, ?_⟩;have p327 : 0 ≤ (x7_1 : Int):=of_decide_eq_true (by (with_reducible assumption));have q327 : x7_1 < (l0.length : Int):=of_decide_eq_true (by (with_reducible assumption));obtain ⟨ad327,e327,hx327_0,hx327_1⟩ := at_T60 HR0.out x7_1 p327 q327;cases e327;replace p327:=eq_true p327;replace q327:=eq_true q327))
      go_ret
      exact ⟨by rfl,by repeat (first | exact Drawn0.refl _ | apply Drawn0.step)⟩
     ·rw [if_neg c7] at H
      have c7b0 : decide (((rd_T60 l0 x7_1).f0) < t325) = false:=decide_eq_false c7
      clear c7
      by_cases c8 : t326 > ((rd_T60 l0 x7_1).f1)
      ·rw [if_pos c8] at H
       have c8b0 : decide (((rd_T60 l0 x7_1).f1) < t326) = true:=decide_eq_true c8
       clear c8
       obtain rfl:=Option.some.inj H
       go_wp2_with (((with_reducible refine gate_callee (f:=55) rfl ?_);refine goesL_ (some 20) rfl rfl Try.func55 (by kernel_rfl) rfl #[.slice A1 l1.length c1, .slice A2 l2.length c2, .int .i64 x7_1] rfl (by (try simp only [List.map_toArray,List.map_cons,List.map_nil]);rfl) ?_;(with_reducible refine (spec_l19Sums.calls k1 _ _ l1 _ _ l2 x7_1 t325 t326 _ ?side1 ?side2 ?side3 ?side4 A5.out).mono ?_);(case side1 => repeat (exact HR1.out));(case side2 => exact HC1.out);(case side3 => repeat (exact HR2.out));(case side4 => exact HC2.out);rintro e w' ⟨rfl,⟨nd,rfl⟩⟩;refine ⟨_,rfl, ?_⟩;have p327 : 0 ≤ (x7_1 : Int):=of_decide_eq_true (by (with_reducible assumption));have q327 : x7_1 < (l0.length : Int):=of_decide_eq_true (by (with_reducible assumption));obtain ⟨ad327,e327,hx327_0,hx327_1⟩ := at_T60 HR0.out x7_1 p327 q327;cases e327;replace p327:=eq_true p327;replace q327:=eq_true q327;have p328 : 0 ≤ (x7_1 : Int):=of_decide_eq_true (by (with_reducible assumption));have q328 : x7_1 < (l0.length : Int):=of_decide_eq_true (by (with_reducible assumption));obtain ⟨ad328,e328,hx328_0,hx328_1⟩ := at_T60 HR0.out x7_1 p328 q328;obtain rfl : ad327 = ad328:=(by injection e328);replace p328:=eq_true p328;replace q328:=eq_true q328))
       go_ret
       exact ⟨by rfl,by repeat (first | exact Drawn0.refl _ | apply Drawn0.step)⟩
      ·rw [if_neg c8] at H
       have c8b0 : decide (((rd_T60 l0 x7_1).f1) < t326) = false:=decide_eq_false c8
       clear c8
       have H':=Aside0.mk H
       clear H
       go_wp2_with (((with_reducible refine gate_callee (f:=55) rfl ?_);refine goesL_ (some 20) rfl rfl Try.func55 (by kernel_rfl) rfl #[.slice A1 l1.length c1, .slice A2 l2.length c2, .int .i64 x7_1] rfl (by (try simp only [List.map_toArray,List.map_cons,List.map_nil]);rfl) ?_;(with_reducible refine (spec_l19Sums.calls k1 _ _ l1 _ _ l2 x7_1 t325 t326 _ ?side1 ?side2 ?side3 ?side4 A5.out).mono ?_);(case side1 => repeat (exact HR1.out));(case side2 => exact HC1.out);(case side3 => repeat (exact HR2.out));(case side4 => exact HC2.out);rintro e w' ⟨rfl,⟨nd,rfl⟩⟩;refine ⟨_,rfl, ?_⟩;have p327 : 0 ≤ (x7_1 : Int):=of_decide_eq_true (by (with_reducible assumption));have q327 : x7_1 < (l0.length : Int):=of_decide_eq_true (by (with_reducible assumption));obtain ⟨ad327,e327,hx327_0,hx327_1⟩ := at_T60 HR0.out x7_1 p327 q327;cases e327;replace p327:=eq_true p327;replace q327:=eq_true q327;have p328 : 0 ≤ (x7_1 : Int):=of_decide_eq_true (by (with_reducible assumption));have q328 : x7_1 < (l0.length : Int):=of_decide_eq_true (by (with_reducible assumption));obtain ⟨ad328,e328,hx328_0,hx328_1⟩ := at_T60 HR0.out x7_1 p328 q328;obtain rfl : ad327 = ad328:=(by injection e328);replace p328:=eq_true p328;replace q328:=eq_true q328))
       go_roundg k1
       case measure => have:=HK1.out;omega
       case rel => exact ⟨(wrap64 (x7_1 + 1)),(by rfl),H',⟨by have:=HK1.out;omega⟩,by repeat (first | exact Drawn0.refl _ | apply Drawn0.step)⟩
    ·rw [if_neg c6] at H
     exact absurd H (by simp)
   ·rw [if_neg c4] at H
    have c4b0 : decide (x7_1 < (l0.length : Int)) = false:=decide_eq_false c4
    clear c4
    obtain rfl:=Option.some.inj H
    go_wp2
    go_ret
    exact ⟨by rfl,by repeat (first | exact Drawn0.refl _ | apply Drawn0.step)⟩

end Go.Proofs.Ytempmebpbbbkmaa.PFnWagons
