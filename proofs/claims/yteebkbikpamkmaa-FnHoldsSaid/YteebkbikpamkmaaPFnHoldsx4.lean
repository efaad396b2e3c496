-- Written by a program of this session, over the kit's print (wip/xprint.py)
import Derived.Test.YteebkbikpamkmaaPFnHoldsx0
import Derived.Test.YteebkbikpamkmaaPFnHoldsx2
import Derived.Test.YteebkbikpamkmaaPFnHoldsx3
namespace Go.Proofs.Yteebkbikpamkmaa.PFnHolds
open Go.RowKit Go.Proofs.YteebkbikpamkmaaW.PrintWords Go.Proofs.YteebkbikpamkmaaW.PrintLast Go.Proofs.YteebkbikpamkmaaW.PrintMore
attribute [local go_sem] max2_int min2_int max_two min_two max_three min_three max_four min_four   -- for this text's walks alone
set_option linter.unusedVariables false
set_option linter.unusedSimpArgs false

/-! ### spec_l1Cur_hour20: function 38 -/
def spec_l1Cur_hour20.f (s0_0 : List Int) (s0_1 : Int) (s0_2 : Int) : Option (Int × Int × Int):=(some (([0,3,10,30,60,100,240,(-1),241] : List Int) : List Int)).bind fun y232 => ((spec_l1Cur_pick.f s0_0 s0_1 s0_2 24).bind fun bt235 => (if 0 ≤ (wrap64 (7 + (wrap64 (Int.tdiv bt235.1 11)))) then (if (wrap64 (7 + (wrap64 (Int.tdiv bt235.1 11)))) ≤ (y232.length : Int) then ((spec_l1Cur_among.f s0_0 bt235.2.1 bt235.2.2 (y232.take ((wrap64 (7 + (wrap64 (Int.tdiv bt235.1 11)))) : Int).toNat)).bind fun bt242 => (some (bt242.1,bt242.2.1,bt242.2.2))) else (none)) else (none)))
set_option maxHeartbeats 8000000 in
set_option maxRecDepth 100000 in
theorem spec_l1Cur_hour20.calls (g : Nat) (s0_0 : List Int) (s0_1 : Int) (s0_2 : Int) (r1 : Int) (r2 : Int) (r3 : Int) (w0 w : World) (hI : IsS61 w0 w g s0_0 s0_1 s0_2) (hB : Below w0.heap.size w0 w) (h : spec_l1Cur_hour20.f s0_0 s0_1 s0_2 = some (r1,r2,r3)) :
  Calls Try.prog 38 #[.pointer (some ⟨g,0,none⟩)] w fun e w' => e = .returned (.int .i64 r1) ∧ IsS61 w0 w' g s0_0 r2 r3 ∧ Below w0.heap.size w0 w' ∧ KeepBut w w' g none:=by
 have HI0:=Aside0.mk hI
 have HK:=Aside0.mk (KeepBut.refl w g none)
 have HL:=Aside0.mk hB.size
 clear hI
 have HW0:=Aside0.mk hB.size
 have HB:=Aside0.mk hB
 clear hB
 have H : ((some (([0,3,10,30,60,100,240,(-1),241] : List Int) : List Int)).bind fun y232 => ((spec_l1Cur_pick.f s0_0 s0_1 s0_2 24).bind fun bt235 => (if 0 ≤ (wrap64 (7 + (wrap64 (Int.tdiv bt235.1 11)))) then (if (wrap64 (7 + (wrap64 (Int.tdiv bt235.1 11)))) ≤ (y232.length : Int) then ((spec_l1Cur_among.f s0_0 bt235.2.1 bt235.2.2 (y232.take ((wrap64 (7 + (wrap64 (Int.tdiv bt235.1 11)))) : Int).toNat)).bind fun bt242 => (some (bt242.1,bt242.2.1,bt242.2.2))) else (none)) else (none)))) = some (r1,r2,r3):=h
 clear h
 obtain ⟨y232,hy232⟩ : ∃ y_ : List Int,y_ = (([0,3,10,30,60,100,240,(-1),241] : List Int)):=⟨_,rfl⟩
 replace H : ((spec_l1Cur_pick.f s0_0 s0_1 s0_2 24).bind fun bt235 => (if 0 ≤ (wrap64 (7 + (wrap64 (Int.tdiv bt235.1 11)))) then (if (wrap64 (7 + (wrap64 (Int.tdiv bt235.1 11)))) ≤ (y232.length : Int) then ((spec_l1Cur_among.f s0_0 bt235.2.1 bt235.2.2 (y232.take ((wrap64 (7 + (wrap64 (Int.tdiv bt235.1 11)))) : Int).toNat)).bind fun bt242 => (some (bt242.1,bt242.2.1,bt242.2.2))) else (none)) else (none))) = some (r1,r2,r3):=by (have H2_:=(Option.bind_some _ _).symm.trans H;rw [hy232];with_reducible exact H2_)
 have Ny232:=Aside0.mk hy232
 clear hy232
 replace H:=Option.bind_eq_some_iff.mp H
 obtain ⟨⟨t235,t236,t237⟩,A20,H⟩ := H
 replace H : (if 0 ≤ (wrap64 (7 + (wrap64 (Int.tdiv t235 11)))) then (if (wrap64 (7 + (wrap64 (Int.tdiv t235 11)))) ≤ (y232.length : Int) then ((spec_l1Cur_among.f s0_0 t236 t237 (y232.take ((wrap64 (7 + (wrap64 (Int.tdiv t235 11)))) : Int).toNat)).bind fun bt242 => (some (bt242.1,bt242.2.1,bt242.2.2))) else (none)) else (none)) = some (r1,r2,r3):=H
 have A2:=Aside0.mk A20
 clear A20
 obtain ⟨ji3,hji3⟩ : ∃ j_ : Int,(wrap64 (7 + (wrap64 (Int.tdiv t235 11)))) = j_:=⟨_,rfl⟩
 replace H : (if 0 ≤ (ji3) then (if (ji3) ≤ (y232.length : Int) then ((spec_l1Cur_among.f s0_0 t236 t237 (y232.take ((ji3) : Int).toNat)).bind fun bt242 => (some (bt242.1,bt242.2.1,bt242.2.2))) else (none)) else (none)) = some (r1,r2,r3):=by (rw [hji3] at H;exact H)
 (skip)
 have hji3w : (IntKind.i64.wrap (7 + (wrap64 (Int.tdiv t235 11)))) = ji3:=(i64_w _).trans hji3
 by_cases c4 : 0 ≤ (ji3)
 ·rw [if_pos c4] at H
  have c4b0:=eq_true c4
  have c4b1 : decide (0 ≤ (ji3)) = true:=decide_eq_true c4
  clear c4
  by_cases c5 : (ji3) ≤ (y232.length : Int)
  ·rw [if_pos c5] at H
   have c5b0:=eq_true c5
   have c5b1 : decide ((ji3) ≤ (y232.length : Int)) = true:=decide_eq_true c5
   clear c5
   obtain ⟨y238,hy238⟩ : ∃ y_ : List Int,y_ = (y232.take ((ji3) : Int).toNat):=⟨_,rfl⟩
   replace H : ((spec_l1Cur_among.f s0_0 t236 t237 y238).bind fun bt242 => (some (bt242.1,bt242.2.1,bt242.2.2))) = some (r1,r2,r3):=by (rw [hy238];with_reducible exact H)
   have Ny238:=Aside0.mk hy238
   clear hy238
   replace H:=Option.bind_eq_some_iff.mp H
   obtain ⟨⟨t242,t243,t244⟩,A60,H⟩ := H
   replace H : (some (t242,t243,t244)) = some (r1,r2,r3):=H
   have A6:=Aside0.mk A60
   clear A60
   simp only [Option.some.injEq,Prod.mk.injEq] at H
   obtain ⟨rfl,rfl,rfl⟩ := H
   go_enter Try.func38,Try.ntmps38
   go_wp2_with (first | ((with_reducible refine gate_dst (N:=4) rfl ?_);refine Kd.R_lit (Kd.int .i64) _ 3 ?hg (N:=4) ?hd (xs:=([0,3,10,30,60,100,240,(-1),241] : List Int)) (inner := [.int .i64 0, .int .i64 3, .int .i64 10, .int .i64 30, .int .i64 60, .int .i64 100, .int .i64 240, .int .i64 (-1), .int .i64 241]) (ok:=fun _ => True) (okp:=fun _ => True) ?hr ?hp (fun _ hk => hk) trivial (Below.refl _ _) (Nat.le_refl _) (by simp) ?_;(case hd => rfl);(case hg => rfl);(case hr => (go_simp;done));(case hp => exact (Reps.one (show Kd.M (Kd.int .i64) _ _ _ 0 [.int .i64 0] from rfl) (Reps.one (show Kd.M (Kd.int .i64) _ _ _ 3 [.int .i64 3] from rfl) (Reps.one (show Kd.M (Kd.int .i64) _ _ _ 10 [.int .i64 10] from rfl) (Reps.one (show Kd.M (Kd.int .i64) _ _ _ 30 [.int .i64 30] from rfl) (Reps.one (show Kd.M (Kd.int .i64) _ _ _ 60 [.int .i64 60] from rfl) (Reps.one (show Kd.M (Kd.int .i64) _ _ _ 100 [.int .i64 100] from rfl) (Reps.one (show Kd.M (Kd.int .i64) _ _ _ 240 [.int .i64 240] from rfl) (Reps.one (show Kd.M (Kd.int .i64) _ _ _ (-1) [.int .i64 (-1)] from rfl) (Reps.one (show Kd.M (Kd.int .i64) _ _ _ 241 [.int .i64 241] from rfl) (Reps.none _ _)))))))))));intro v233 w7 ho8 hb hg_ hnew_;clear hg_ hnew_;(rw [← Ny232.out] at ho8);have n0_:=Aside0.mk (Kd.R_lower ho8 (keep_size (w:=w) (g:=g) (row:=none) (by exact HK.out)));have n1_:=Aside0.mk (IsS61.below (by exact HI0.out) hb);have n2_:=Aside0.mk (KeepBut.trans (by exact HK.out) (KeepBut.of_below hb g none) (.inl rfl));have n3_:=Aside0.mk (below_step (by exact HB.out) hb);clear HI0;clear HK;clear HB;have HO234:=n0_;have HI0:=n1_;have HK:=n2_;have HB:=n3_;clear n0_ n1_ n2_ n3_;clear hb ho8) | ((with_reducible refine gate_callee (f:=45) rfl ?_);refine goesL_ (some 6) rfl rfl Try.func45 (by kernel_rfl) rfl #[.pointer (some ⟨g,0,none⟩), .int .i64 24] rfl (by (try simp only [List.map_toArray,List.map_cons,List.map_nil]);rfl) ?_;(with_reducible refine (spec_l1Cur_pick.calls g s0_0 s0_1 s0_2 24 t235 t236 t237 w0 _ ?side1 ?side2 A2.out).mono ?_);(case side1 => exact HI0.out);(case side2 => exact HB.out);rintro e w9 ⟨rfl,hi,hb,hk⟩;refine ⟨_,rfl, ?_⟩;have n0_:=Aside0.mk (Kd.R_mono (Kd.R_keep (IsS61.apart (show IsS61 w0 _ g s0_0 s0_1 s0_2 from by exact HI0.out) (by exact HO234.out) (by decide)) hk (fun _ h => h.2)) (fun _ h => h.1));have n1_:=Aside0.mk (KeepBut.trans (by exact HK.out) hk (.inl rfl));have n2_:=Aside0.mk (hb);have n3_:=Aside0.mk (hi);clear HO234;clear HK;clear HB;clear HI0;have HO234:=n0_;have HK:=n1_;have HB:=n2_;have HI0:=n3_;clear n0_ n1_ n2_ n3_;(try clear hb);(try clear hk);(try clear hi);obtain ⟨Ao11,co11,eo11⟩ := Kd.R_slice HO234.out;subst eo11;have q10 : ((ji3) : Int) ≤ ((y232.length : Int) : Int):=of_decide_eq_true (by (with_reducible assumption));obtain ⟨i010,hi010,_,hsz10,_⟩ := info_parts info3;have hroom10 : y232.length ≤ co11:=(Kd.R_reads' HO234.out).2.1;have hC10 : Kd.C (Kd.int .i64) _ Ao11 y232.length y232:=(Kd.R_reads' HO234.out).2.2;have hcut10:=cut_to (P:=Try.prog) 79 3 .i64 Try.underlying79 hi010 Ao11 y232.length co11 (ji3) (of_decide_eq_true (by (with_reducible assumption))) q10 hroom10;have hr10:=Kd.C_take (m:=((ji3) : Int).toNat) hC10 (by omega);have hy10 : y238.length = ((ji3) : Int).toNat:=(by rw [Ny238.out,List.length_take];omega);rw [← Ny238.out] at hr10;rw [← hy10] at hcut10;have HR241:=Aside0.mk hr10;have HC241:=Aside0.mk (show y238.length ≤ co11 from by omega);clear hr10 hC10 hroom10 hi010 hsz10;have KY10:=Aside0.mk hy10;clear hy10;have KL10:=Aside0.mk (show ((ji3) : Int).toNat ≤ y232.length from by omega);replace q10:=eq_true q10) | ((with_reducible refine gate_callee (f:=56) rfl ?_);refine goesL_ (some 10) rfl rfl Try.func56 (by kernel_rfl) rfl #[.pointer (some ⟨g,0,none⟩), .slice Ao11 y238.length co11] rfl (by (try simp only [List.map_toArray,List.map_cons,List.map_nil]);rfl) ?_;(with_reducible refine (spec_l1Cur_among.calls g s0_0 t236 t237 _ _ y238 t242 t243 t244 w0 _ ?side1 ?side2 ?side3 ?side4 ?side5 A6.out).mono ?_);(case side1 => exact HI0.out);(case side2 => exact HB.out);(case side3 => repeat (exact (by exact HR241.out)));(case side4 => exact HC241.out);(case side5 => intro ad_ he_ hn_;exact far_slice (IsS61.own_ne HI0.out HO234.out (by decide)) ad_ he_ (by have h1_:=KL10.out;have h2_:=KY10.out;omega));rintro e w12 ⟨rfl,hi,hb,hk⟩;refine ⟨_,rfl, ?_⟩;have n0_:=Aside0.mk (Kd.R_mono (Kd.R_keep (IsS61.apart (show IsS61 w0 _ g s0_0 t236 t237 from by exact HI0.out) (by exact HO234.out) (by decide)) hk (fun _ h => h.2)) (fun _ h => h.1));have n1_:=Aside0.mk (KeepBut.trans (by exact HK.out) hk (.inl rfl));have n2_:=Aside0.mk (hb);have n3_:=Aside0.mk (hi);clear HO234;clear HK;clear HB;clear HI0;have HO234:=n0_;have HK:=n1_;have HB:=n2_;have HI0:=n3_;clear n0_ n1_ n2_ n3_;(try clear hb);(try clear hk);(try clear hi)))
   go_ret
   exact ⟨by rfl,by exact HI0.out,by exact HB.out,by exact HK.out⟩
  ·rw [if_neg c5] at H
   exact absurd H (by simp)
 ·rw [if_neg c4] at H
  exact absurd H (by simp)

/-! ### spec_l1Cur_anyId20: function 44 -/
def spec_l1Cur_anyId20.f (k : Nat) (s0_0 : List Int) (s0_1 : Int) (s0_2 : Int) : Option (ByteArray × Int × Int):=(spec_l1Cur_one.f s0_0 s0_1 s0_2 16).bind fun bt245 => (if bt245.1 = true then ((spec_l1Cur_of.f s0_0 bt245.2.1 bt245.2.2 (([(⟨#[]⟩ : ByteArray),(⟨#[65,66,67,48,48,48,49]⟩ : ByteArray),(⟨#[65,66,67,48,48,48,49,90]⟩ : ByteArray)] : List ByteArray))).bind fun bt251 => (some (bt251.1,bt251.2.1,bt251.2.2))) else ((spec_l1Cur_id20.f k s0_0 bt245.2.1 bt245.2.2).bind fun bt254 => (some (bt254.1,bt254.2.1,bt254.2.2))))
theorem spec_l1Cur_anyId20.mono : ∀ a0 a1 a2 k,LeO (spec_l1Cur_anyId20.f k a0 a1 a2) (spec_l1Cur_anyId20.f (k + 1) a0 a1 a2):=by
 intro a0 a1 a2 k
 unfold spec_l1Cur_anyId20.f
 repeat' first
   | (with_reducible exact spec_l1Cur_id20.mono _ _ _ _)
   | (with_reducible exact LeO.refl _)
   | (with_reducible exact LeO.none _)
   | (with_reducible refine LeO.ite ?_ ?_)
   | (with_reducible refine LeO.bind ?_ (fun _ => ?_))
   | exact spec_l1Cur_id20.mono _ _ _ _
   | exact LeO.none _
   | refine LeO.ite ?_ ?_
   | refine LeO.bind ?_ (fun _ => ?_)
set_option maxHeartbeats 8000000 in
set_option maxRecDepth 100000 in
theorem spec_l1Cur_anyId20.calls (k : Nat) (g : Nat) (s0_0 : List Int) (s0_1 : Int) (s0_2 : Int) (r1 : ByteArray) (r2 : Int) (r3 : Int) (w0 w : World) (hI : IsS61 w0 w g s0_0 s0_1 s0_2) (hB : Below w0.heap.size w0 w) (h : spec_l1Cur_anyId20.f k s0_0 s0_1 s0_2 = some (r1,r2,r3)) :
  Calls Try.prog 44 #[.pointer (some ⟨g,0,none⟩)] w fun e w' => e = .returned (.string r1) ∧ IsS61 w0 w' g s0_0 r2 r3 ∧ Below w0.heap.size w0 w' ∧ KeepBut w w' g none:=by
 have HI0:=Aside0.mk hI
 have HK:=Aside0.mk (KeepBut.refl w g none)
 have HL:=Aside0.mk hB.size
 clear hI
 have HW0:=Aside0.mk hB.size
 have HB:=Aside0.mk hB
 clear hB
 have H : ((spec_l1Cur_one.f s0_0 s0_1 s0_2 16).bind fun bt245 => (if bt245.1 = true then ((spec_l1Cur_of.f s0_0 bt245.2.1 bt245.2.2 (([(⟨#[]⟩ : ByteArray),(⟨#[65,66,67,48,48,48,49]⟩ : ByteArray),(⟨#[65,66,67,48,48,48,49,90]⟩ : ByteArray)] : List ByteArray))).bind fun bt251 => (some (bt251.1,bt251.2.1,bt251.2.2))) else ((spec_l1Cur_id20.f k s0_0 bt245.2.1 bt245.2.2).bind fun bt254 => (some (bt254.1,bt254.2.1,bt254.2.2))))) = some (r1,r2,r3):=h
 clear h
 replace H:=Option.bind_eq_some_iff.mp H
 obtain ⟨⟨t245,t246,t247⟩,A20,H⟩ := H
 replace H : (if t245 = true then ((spec_l1Cur_of.f s0_0 t246 t247 (([(⟨#[]⟩ : ByteArray),(⟨#[65,66,67,48,48,48,49]⟩ : ByteArray),(⟨#[65,66,67,48,48,48,49,90]⟩ : ByteArray)] : List ByteArray))).bind fun bt251 => (some (bt251.1,bt251.2.1,bt251.2.2))) else ((spec_l1Cur_id20.f k s0_0 t246 t247).bind fun bt254 => (some (bt254.1,bt254.2.1,bt254.2.2)))) = some (r1,r2,r3):=H
 have A2:=Aside0.mk A20
 clear A20
 by_cases c3 : t245 = true
 ·subst c3
  have H1 : ((spec_l1Cur_of.f s0_0 t246 t247 (([(⟨#[]⟩ : ByteArray),(⟨#[65,66,67,48,48,48,49]⟩ : ByteArray),(⟨#[65,66,67,48,48,48,49,90]⟩ : ByteArray)] : List ByteArray))).bind fun bt251 => (some (bt251.1,bt251.2.1,bt251.2.2))) = some (r1,r2,r3):=by rw [if_pos rfl] at H;exact H
  clear H
  have H:=H1
  clear H1
  obtain ⟨y248,hy248⟩ : ∃ y_ : List ByteArray,y_ = (([(⟨#[]⟩ : ByteArray),(⟨#[65,66,67,48,48,48,49]⟩ : ByteArray),(⟨#[65,66,67,48,48,48,49,90]⟩ : ByteArray)] : List ByteArray)):=⟨_,rfl⟩
  replace H : ((spec_l1Cur_of.f s0_0 t246 t247 y248).bind fun bt251 => (some (bt251.1,bt251.2.1,bt251.2.2))) = some (r1,r2,r3):=by (rw [hy248];with_reducible exact H)
  have Ny248:=Aside0.mk hy248
  clear hy248
  replace H:=Option.bind_eq_some_iff.mp H
  obtain ⟨⟨t251,t252,t253⟩,A40,H⟩ := H
  replace H : (some (t251,t252,t253)) = some (r1,r2,r3):=H
  have A4:=Aside0.mk A40
  clear A40
  simp only [Option.some.injEq,Prod.mk.injEq] at H
  obtain ⟨rfl,rfl,rfl⟩ := H
  go_enter Try.func44,Try.ntmps44
  go_wp2_with (first | ((with_reducible refine gate_callee (f:=55) rfl ?_);refine goesL_ (some 4) rfl rfl Try.func55 (by kernel_rfl) rfl #[.pointer (some ⟨g,0,none⟩), .int .i64 16] rfl (by (try simp only [List.map_toArray,List.map_cons,List.map_nil]);rfl) ?_;(with_reducible refine (spec_l1Cur_one.calls g s0_0 s0_1 s0_2 16 true t246 t247 w0 _ ?side1 ?side2 A2.out).mono ?_);(case side1 => exact HI0.out);(case side2 => exact HB.out);rintro e w5 ⟨rfl,hi,hb,hk⟩;refine ⟨_,rfl, ?_⟩;have n0_:=Aside0.mk (KeepBut.trans (by exact HK.out) hk (.inl rfl));have n1_:=Aside0.mk (hb);have n2_:=Aside0.mk (hi);clear HK;clear HB;clear HI0;have HK:=n0_;have HB:=n1_;have HI0:=n2_;clear n0_ n1_ n2_;(try clear hb);(try clear hk);(try clear hi)) | ((with_reducible refine gate_dst (N:=6) rfl ?_);refine Kd.R_lit Kd.string _ 9 ?hg (N:=6) ?hd (xs:=([(⟨#[]⟩ : ByteArray),(⟨#[65,66,67,48,48,48,49]⟩ : ByteArray),(⟨#[65,66,67,48,48,48,49,90]⟩ : ByteArray)] : List ByteArray)) (inner := [.string (⟨#[]⟩ : ByteArray), .string (⟨#[65,66,67,48,48,48,49]⟩ : ByteArray), .string (⟨#[65,66,67,48,48,48,49,90]⟩ : ByteArray)]) (ok:=fun _ => True) (okp:=fun _ => True) ?hr ?hp (fun _ hk => hk) trivial (Below.refl _ _) (Nat.le_refl _) (by simp) ?_;(case hd => rfl);(case hg => rfl);(case hr => (go_simp;done));(case hp => exact (Reps.one (show Kd.M Kd.string _ _ _ (⟨#[]⟩ : ByteArray) [.string (⟨#[]⟩ : ByteArray)] from rfl) (Reps.one (show Kd.M Kd.string _ _ _ (⟨#[65,66,67,48,48,48,49]⟩ : ByteArray) [.string (⟨#[65,66,67,48,48,48,49]⟩ : ByteArray)] from rfl) (Reps.one (show Kd.M Kd.string _ _ _ (⟨#[65,66,67,48,48,48,49,90]⟩ : ByteArray) [.string (⟨#[65,66,67,48,48,48,49,90]⟩ : ByteArray)] from rfl) (Reps.none _ _)))));intro v249 w6 ho7 hb hg_ hnew_;clear hg_ hnew_;(rw [← Ny248.out] at ho7);have n0_:=Aside0.mk (Kd.R_lower ho7 (keep_size (w:=w) (g:=g) (row:=none) (by exact HK.out)));have n1_:=Aside0.mk (IsS61.below (by exact HI0.out) hb);have n2_:=Aside0.mk (KeepBut.trans (by exact HK.out) (KeepBut.of_below hb g none) (.inl rfl));have n3_:=Aside0.mk (below_step (by exact HB.out) hb);clear HI0;clear HK;clear HB;have HO250:=n0_;have HI0:=n1_;have HK:=n2_;have HB:=n3_;clear n0_ n1_ n2_ n3_;clear hb ho7;obtain ⟨Ao8,co8,eo8⟩ := Kd.R_slice HO250.out;subst eo8) | ((with_reducible refine gate_callee (f:=57) rfl ?_);refine goesL_ (some 7) rfl rfl Try.func57 (by kernel_rfl) rfl #[.pointer (some ⟨g,0,none⟩), .slice Ao8 y248.length co8] rfl (by (try simp only [List.map_toArray,List.map_cons,List.map_nil]);rfl) ?_;(with_reducible refine (spec_l1Cur_of.calls g s0_0 t246 t247 _ _ y248 t251 t252 t253 w0 _ ?side1 ?side2 ?side3 ?side4 ?side5 A4.out).mono ?_);(case side1 => exact HI0.out);(case side2 => exact HB.out);(case side3 => repeat (exact (Kd.R_reads' HO250.out).2.2));(case side4 => exact (Kd.R_reads' HO250.out).2.1);(case side5 => exact far_slice (IsS61.own_ne HI0.out HO250.out (by decide)));rintro e w9 ⟨rfl,hi,hb,hk⟩;refine ⟨_,rfl, ?_⟩;have n0_:=Aside0.mk (Kd.R_mono (Kd.R_keep (IsS61.apart (show IsS61 w0 _ g s0_0 t246 t247 from by exact HI0.out) (by exact HO250.out) (by decide)) hk (fun _ h => h.2)) (fun _ h => h.1));have n1_:=Aside0.mk (KeepBut.trans (by exact HK.out) hk (.inl rfl));have n2_:=Aside0.mk (hb);have n3_:=Aside0.mk (hi);clear HO250;clear HK;clear HB;clear HI0;have HO250:=n0_;have HK:=n1_;have HB:=n2_;have HI0:=n3_;clear n0_ n1_ n2_ n3_;(try clear hb);(try clear hk);(try clear hi)))
  go_ret
  exact ⟨by rfl,by exact HI0.out,by exact HB.out,by exact HK.out⟩
 ·replace c3:=Bool.eq_false_iff.mpr c3
  subst c3
  have H1 : ((spec_l1Cur_id20.f k s0_0 t246 t247).bind fun bt254 => (some (bt254.1,bt254.2.1,bt254.2.2))) = some (r1,r2,r3):=by rw [if_neg (show ¬ (false = true) by decide)] at H;exact H
  clear H
  have H:=H1
  clear H1
  replace H:=Option.bind_eq_some_iff.mp H
  obtain ⟨⟨t254,t255,t256⟩,A100,H⟩ := H
  replace H : (some (t254,t255,t256)) = some (r1,r2,r3):=H
  have A10:=Aside0.mk A100
  clear A100
  simp only [Option.some.injEq,Prod.mk.injEq] at H
  obtain ⟨rfl,rfl,rfl⟩ := H
  go_enter Try.func44,Try.ntmps44
  go_wp2_with (first | ((with_reducible refine gate_callee (f:=55) rfl ?_);refine goesL_ (some 4) rfl rfl Try.func55 (by kernel_rfl) rfl #[.pointer (some ⟨g,0,none⟩), .int .i64 16] rfl (by (try simp only [List.map_toArray,List.map_cons,List.map_nil]);rfl) ?_;(with_reducible refine (spec_l1Cur_one.calls g s0_0 s0_1 s0_2 16 false t246 t247 w0 _ ?side1 ?side2 A2.out).mono ?_);(case side1 => exact HI0.out);(case side2 => exact HB.out);rintro e w11 ⟨rfl,hi,hb,hk⟩;refine ⟨_,rfl, ?_⟩;have n0_:=Aside0.mk (KeepBut.trans (by exact HK.out) hk (.inl rfl));have n1_:=Aside0.mk (hb);have n2_:=Aside0.mk (hi);clear HK;clear HB;clear HI0;have HK:=n0_;have HB:=n1_;have HI0:=n2_;clear n0_ n1_ n2_;(try clear hb);(try clear hk);(try clear hi)) | ((with_reducible refine gate_callee (f:=54) rfl ?_);refine goesL_ (some 9) rfl rfl Try.func54 (by kernel_rfl) rfl #[.pointer (some ⟨g,0,none⟩)] rfl (by (try simp only [List.map_toArray,List.map_cons,List.map_nil]);rfl) ?_;(with_reducible refine (spec_l1Cur_id20.calls k g s0_0 t246 t247 t254 t255 t256 w0 _ ?side1 ?side2 A10.out).mono ?_);(case side1 => exact HI0.out);(case side2 => exact HB.out);rintro e w12 ⟨rfl,hi,hb,hk⟩;refine ⟨_,rfl, ?_⟩;have n0_:=Aside0.mk (KeepBut.trans (by exact HK.out) hk (.inl rfl));have n1_:=Aside0.mk (hb);have n2_:=Aside0.mk (hi);clear HK;clear HB;clear HI0;have HK:=n0_;have HB:=n1_;have HI0:=n2_;clear n0_ n1_ n2_;(try clear hb);(try clear hk);(try clear hi)))
  go_ret
  exact ⟨by rfl,by exact HI0.out,by exact HB.out,by exact HK.out⟩

/-! ### spec_DrawHoldsOn: function 17 -/
def spec_DrawHoldsOn.f (k : Nat) (l0 : List Int) : Option ((List (S52)) × ByteArray × Int):=(spec_l1Cur_file.f k l0 0 0).bind fun bt258 => ((spec_l1Cur_anyId20.f k l0 bt258.2.1 bt258.2.2).bind fun bt263 => ((spec_l1Cur_hour20.f l0 bt263.2.1 bt263.2.2).bind fun bt266 => (some (bt258.1,bt263.1,bt266.1))))
theorem spec_DrawHoldsOn.mono : ∀ a0 k,LeO (spec_DrawHoldsOn.f k a0) (spec_DrawHoldsOn.f (k + 1) a0):=by
 intro a0 k
 unfold spec_DrawHoldsOn.f
 repeat' first
   | (with_reducible exact spec_l1Cur_anyId20.mono _ _ _ _)
   | (with_reducible exact spec_l1Cur_file.mono _ _ _ _)
   | (with_reducible exact LeO.refl _)
   | (with_reducible exact LeO.none _)
   | (with_reducible refine LeO.ite ?_ ?_)
   | (with_reducible refine LeO.bind ?_ (fun _ => ?_))
   | exact spec_l1Cur_anyId20.mono _ _ _ _
   | exact spec_l1Cur_file.mono _ _ _ _
   | exact LeO.none _
   | refine LeO.ite ?_ ?_
   | refine LeO.bind ?_ (fun _ => ?_)
set_option maxHeartbeats 8000000 in
set_option maxRecDepth 100000 in
theorem spec_DrawHoldsOn.calls (k : Nat) (A0 : Option Addr) (c0 : Nat) (l0 : List Int) (r1 : List (S52)) (r2 : ByteArray) (r3 : Int) (w : World) (hr0 : Kd.C (Kd.int .u8) w A0 l0.length l0) (hc0 : l0.length ≤ c0) (h : spec_DrawHoldsOn.f k l0 = some (r1,r2,r3)) :
  Calls Try.prog 17 #[.slice A0 l0.length c0] w fun e w' => ∃ v0_ : Value,e = .returned (.tuple #[v0_, .string r2, .int .i64 r3]) ∧ Kd.Q k52 52 w' w.heap.size (fun _ => True) v0_ r1 ∧ Below w.heap.size w w':=by
 have hu61:=Try.underlying61
 have HR0:=Aside0.mk hr0
 have HC0:=Aside0.mk hc0
 clear hr0 hc0
 have HB:=Aside0.mk (Below.refl w.heap.size w)
 have H : ((spec_l1Cur_file.f k l0 0 0).bind fun bt258 => ((spec_l1Cur_anyId20.f k l0 bt258.2.1 bt258.2.2).bind fun bt263 => ((spec_l1Cur_hour20.f l0 bt263.2.1 bt263.2.2).bind fun bt266 => (some (bt258.1,bt263.1,bt266.1))))) = some (r1,r2,r3):=h
 clear h
 replace H:=Option.bind_eq_some_iff.mp H
 obtain ⟨⟨t258,t261,t262⟩,A20,H⟩ := H
 replace H : ((spec_l1Cur_anyId20.f k l0 t261 t262).bind fun bt263 => ((spec_l1Cur_hour20.f l0 bt263.2.1 bt263.2.2).bind fun bt266 => (some (t258,bt263.1,bt266.1)))) = some (r1,r2,r3):=H
 have A2:=Aside0.mk A20
 clear A20
 replace H:=Option.bind_eq_some_iff.mp H
 obtain ⟨⟨t263,t264,t265⟩,A30,H⟩ := H
 replace H : ((spec_l1Cur_hour20.f l0 t264 t265).bind fun bt266 => (some (t258,t263,bt266.1))) = some (r1,r2,r3):=H
 have A3:=Aside0.mk A30
 clear A30
 replace H:=Option.bind_eq_some_iff.mp H
 obtain ⟨⟨t266,t267,t268⟩,A40,H⟩ := H
 replace H : (some (t258,t263,t266)) = some (r1,r2,r3):=H
 have A4:=Aside0.mk A40
 clear A40
 simp only [Option.some.injEq,Prod.mk.injEq] at H
 obtain ⟨rfl,rfl,rfl⟩ := H
 go_enter Try.func17,Try.ntmps17
 go_wp2_with (first | ((with_reducible refine gate_dst (N:=9) rfl ?_);refine box_event ?hg (N:=9) ?hd (cs:=#[.slice A0 l0.length c0, .int .i64 0, .int .u64 0]) (t:=61) ?hr ?_;(case hd => rfl);(case hg => rfl);(case hr => (go_simp;done));intro gb257 hg w5 hbox hb;have n0_:=Aside0.mk (below_step (by exact HB.out) hb);have n1_:=Aside0.mk ((show IsS61 w _ gb257 l0 0 0 from ⟨_,_,hbox,(by rw [hg];exact (below_size (by exact HB.out)) : w.heap.size ≤ gb257),HR0.out⟩));clear HB;have HB:=n0_;have HI257:=n1_;clear n0_ n1_;clear hb hbox hg) | ((with_reducible refine gate_callee (f:=37) rfl ?_);refine goesL_ (some 11) rfl rfl Try.func37 (by kernel_rfl) rfl #[.pointer (some ⟨gb257,0,none⟩)] rfl (by (try simp only [List.map_toArray,List.map_cons,List.map_nil]);rfl) ?_;(with_reducible refine (spec_l1Cur_file.calls k gb257 l0 0 0 t258 t261 t262 w _ ?side1 ?side2 A2.out).mono ?_);(case side1 => exact HI257.out);(case side2 => exact HB.out);rintro e w6 ⟨v259,rfl,ho0,hi,hb,hk⟩;refine ⟨_,rfl, ?_⟩;have n0_:=Aside0.mk (Kd.Q_lower ho0 (below_size (by exact HB.out)));have n1_:=Aside0.mk (hb);have n2_:=Aside0.mk (hi);clear HB;clear HI257;have HO260:=n0_;have HB:=n1_;have HI257:=n2_;clear n0_ n1_ n2_;(try clear hb);(try clear hk);(try clear hi);(try clear ho0)) | ((with_reducible refine gate_callee (f:=44) rfl ?_);refine goesL_ (some 14) rfl rfl Try.func44 (by kernel_rfl) rfl #[.pointer (some ⟨gb257,0,none⟩)] rfl (by (try simp only [List.map_toArray,List.map_cons,List.map_nil]);rfl) ?_;(with_reducible refine (spec_l1Cur_anyId20.calls k gb257 l0 t261 t262 t263 t264 t265 w _ ?side1 ?side2 A3.out).mono ?_);(case side1 => exact HI257.out);(case side2 => exact HB.out);rintro e w7 ⟨rfl,hi,hb,hk⟩;refine ⟨_,rfl, ?_⟩;have n0_:=Aside0.mk (Kd.Q_mono (Kd.Q_keep (IsS61.apartQ (show IsS61 w _ gb257 l0 t261 t262 from by exact HI257.out) (by exact HO260.out) (by decide)) hk (fun _ h => h.2)) (fun _ h => h.1));have n1_:=Aside0.mk (hb);have n2_:=Aside0.mk (hi);clear HO260;clear HB;clear HI257;have HO260:=n0_;have HB:=n1_;have HI257:=n2_;clear n0_ n1_ n2_;(try clear hb);(try clear hk);(try clear hi)) | ((with_reducible refine gate_callee (f:=38) rfl ?_);refine goesL_ (some 16) rfl rfl Try.func38 (by kernel_rfl) rfl #[.pointer (some ⟨gb257,0,none⟩)] rfl (by (try simp only [List.map_toArray,List.map_cons,List.map_nil]);rfl) ?_;(with_reducible refine (spec_l1Cur_hour20.calls gb257 l0 t264 t265 t266 t267 t268 w _ ?side1 ?side2 A4.out).mono ?_);(case side1 => exact HI257.out);(case side2 => exact HB.out);rintro e w8 ⟨rfl,hi,hb,hk⟩;refine ⟨_,rfl, ?_⟩;have n0_:=Aside0.mk (Kd.Q_mono (Kd.Q_keep (IsS61.apartQ (show IsS61 w _ gb257 l0 t264 t265 from by exact HI257.out) (by exact HO260.out) (by decide)) hk (fun _ h => h.2)) (fun _ h => h.1));have n1_:=Aside0.mk (hb);have n2_:=Aside0.mk (hi);clear HO260;clear HB;clear HI257;have HO260:=n0_;have HB:=n1_;have HI257:=n2_;clear n0_ n1_ n2_;(try clear hb);(try clear hk);(try clear hi)))
 go_ret3
 exact ⟨_,by rfl,by exact HO260.out,by exact HB.out⟩

/-! ### spec_DrawReleaseAll: function 6 -/
def spec_DrawReleaseAll.f (k : Nat) (l0 : List Int) : Option ((List (S52)) × ByteArray × Int):=(spec_DrawHoldsOn.f k l0).bind fun bt269 => (some (bt269.1,bt269.2.1,bt269.2.2))
theorem spec_DrawReleaseAll.mono : ∀ a0 k,LeO (spec_DrawReleaseAll.f k a0) (spec_DrawReleaseAll.f (k + 1) a0):=by
 intro a0 k
 unfold spec_DrawReleaseAll.f
 repeat' first
   | (with_reducible exact spec_DrawHoldsOn.mono _ _)
   | (with_reducible exact LeO.refl _)
   | (with_reducible exact LeO.none _)
   | (with_reducible refine LeO.ite ?_ ?_)
   | (with_reducible refine LeO.bind ?_ (fun _ => ?_))
   | exact spec_DrawHoldsOn.mono _ _
   | exact LeO.none _
   | refine LeO.ite ?_ ?_
   | refine LeO.bind ?_ (fun _ => ?_)
set_option maxHeartbeats 8000000 in
set_option maxRecDepth 100000 in
theorem spec_DrawReleaseAll.calls (k : Nat) (A0 : Option Addr) (c0 : Nat) (l0 : List Int) (r1 : List (S52)) (r2 : ByteArray) (r3 : Int) (w : World) (hr0 : Kd.C (Kd.int .u8) w A0 l0.length l0) (hc0 : l0.length ≤ c0) (h : spec_DrawReleaseAll.f k l0 = some (r1,r2,r3)) :
  Calls Try.prog 6 #[.slice A0 l0.length c0] w fun e w' => ∃ v0_ : Value,e = .returned (.tuple #[v0_, .string r2, .int .i64 r3]) ∧ Kd.Q k52 52 w' w.heap.size (fun _ => True) v0_ r1 ∧ Below w.heap.size w w':=by
 have HR0:=Aside0.mk hr0
 have HC0:=Aside0.mk hc0
 clear hr0 hc0
 have HB:=Aside0.mk (Below.refl w.heap.size w)
 have H : ((spec_DrawHoldsOn.f k l0).bind fun bt269 => (some (bt269.1,bt269.2.1,bt269.2.2))) = some (r1,r2,r3):=h
 clear h
 replace H:=Option.bind_eq_some_iff.mp H
 obtain ⟨⟨t269,t270,t271⟩,A20,H⟩ := H
 replace H : (some (t269,t270,t271)) = some (r1,r2,r3):=H
 have A2:=Aside0.mk A20
 clear A20
 simp only [Option.some.injEq,Prod.mk.injEq] at H
 obtain ⟨rfl,rfl,rfl⟩ := H
 go_enter Try.func6,Try.ntmps6
 go_wp2_with (((with_reducible refine gate_callee (f:=17) rfl ?_);refine goesL_ (some 6) rfl rfl Try.func17 (by kernel_rfl) rfl #[.slice A0 l0.length c0] rfl (by (try simp only [List.map_toArray,List.map_cons,List.map_nil]);rfl) ?_;(with_reducible refine (spec_DrawHoldsOn.calls k _ _ l0 t269 t270 t271 _ ?side1 ?side2 A2.out).mono ?_);(case side1 => repeat (exact HR0.out));(case side2 => exact HC0.out);rintro e w3 ⟨v272,rfl,ho0,hb⟩;refine ⟨_,rfl, ?_⟩;have n0_:=Aside0.mk (Kd.Q_lower ho0 (below_size (by exact HB.out)));have n1_:=Aside0.mk (below_step (by exact HB.out) hb);clear HB;have HO273:=n0_;have HB:=n1_;clear n0_ n1_;(try clear hb);(try clear ho0)))
 go_ret3
 exact ⟨_,by rfl,by exact HO273.out,by exact HB.out⟩

/-! ### impl_within: function 39 -/
def impl_within.f (a0 : Int) (a1 : Int) (a2 : Int) : Option (Bool):=if a0 ≥ a1 then (some (decide (a0 ≤ a2))) else (some false)
set_option maxHeartbeats 8000000 in
set_option maxRecDepth 100000 in
theorem impl_within.calls (a0 : Int) (a1 : Int) (a2 : Int) (r : Bool) (w : World) (h : impl_within.f a0 a1 a2 = some r) :
  Calls Try.prog 39 #[.int .i64 a0, .int .i64 a1, .int .i64 a2] w fun e w' => e = .returned (.bool r) ∧ Drawn0 w w':=by
 have H : (if a0 ≥ a1 then (some (decide (a0 ≤ a2))) else (some false)) = some r:=h
 clear h
 by_cases c4 : a0 ≥ a1
 ·rw [if_pos c4] at H
  have c4b0 : decide (a1 ≤ a0) = true:=decide_eq_true c4
  clear c4
  obtain rfl:=Option.some.inj H
  go_enter Try.func39,Try.ntmps39
  go_wp2
  go_ret
  exact ⟨by rfl,by repeat (exact Drawn0.refl _)⟩
 ·rw [if_neg c4] at H
  have c4b0 : decide (a1 ≤ a0) = false:=decide_eq_false c4
  clear c4
  obtain rfl:=Option.some.inj H
  go_enter Try.func39,Try.ntmps39
  go_wp2
  go_ret
  exact ⟨by rfl,by repeat (exact Drawn0.refl _)⟩

/-! ### impl_checkLetter: function 64 -/
mutual
def impl_checkLetter.l0 : Nat → ByteArray → Int → Int → Int → Option (Int × Bool)
 | 0,_,_,_,_ => none
 | k + 1,x0,x4,x11,x12 => if x12 < x11 then (if 0 ≤ x12 then (if x12 < (x0.size : Int) then (if x12 < 3 then (if (bt x0 x12) ≥ 65 then (impl_checkLetter.j1 k x0 x4 x12 (bt x0 x12) x11 x12 (decide ((bt x0 x12) ≤ 90))) else (impl_checkLetter.j1 k x0 x4 x12 (bt x0 x12) x11 x12 false)) else (impl_checkLetter.j1 k x0 x4 x12 (bt x0 x12) x11 x12 false)) else (none)) else (none)) else (some ((wrap64 (65 + (Int.tmod x4 23))) % 256,true))
def impl_checkLetter.j1 : Nat → ByteArray → Int → Int → Int → Int → Int → Bool → Option (Int × Bool)
 | 0,_,_,_,_,_,_,_ => none
 | k + 1,x0,x4,x5,x6,x11,x12,x18 => if x18 = true then (impl_checkLetter.l0 k x0 (wrap64 (x4 + (wrap64 ((wrap64 (x5 + 2)) * (((x6 - 65) % 256) + 1))))) x11 (wrap64 (x12 + 1))) else (if x5 ≥ 3 then (if x6 ≥ 48 then (if x6 ≤ 57 then (impl_checkLetter.l0 k x0 (wrap64 (x4 + (wrap64 ((wrap64 (x5 + 2)) * ((x6 - 48) % 256))))) x11 (wrap64 (x12 + 1))) else (some (0,false))) else (some (0,false))) else (some (0,false)))
end
def impl_checkLetter.f (k : Nat) (a0 : ByteArray) : Option (Int × Bool):=if (a0.size : Int) = 7 then (impl_checkLetter.l0 k a0 0 (a0.size : Int) 0) else (some (0,false))
theorem impl_checkLetter.mono_l : ∀ k,(∀ y0 y1 y2 y3,LeO (impl_checkLetter.l0 k y0 y1 y2 y3) (impl_checkLetter.l0 (k + 1) y0 y1 y2 y3)) ∧ (∀ y0 y1 y2 y3 y4 y5 y6,LeO (impl_checkLetter.j1 k y0 y1 y2 y3 y4 y5 y6) (impl_checkLetter.j1 (k + 1) y0 y1 y2 y3 y4 y5 y6))
 | 0 => ⟨fun _ _ _ _ r h => by simp [impl_checkLetter.l0] at h,fun _ _ _ _ _ _ _ r h => by simp [impl_checkLetter.j1] at h⟩
 | k + 1 => by
  obtain ⟨ih0,ih1⟩ := impl_checkLetter.mono_l k
  refine ⟨?_, ?_⟩
  ·intro y0 y1 y2 y3
   unfold impl_checkLetter.l0
   repeat' first
   | (with_reducible exact ih0 _ _ _ _)
   | (with_reducible exact ih1 _ _ _ _ _ _ _)
   | (with_reducible exact LeO.refl _)
   | (with_reducible exact LeO.none _)
   | (with_reducible refine LeO.ite ?_ ?_)
   | (with_reducible refine LeO.bind ?_ (fun _ => ?_))
   | exact ih0 _ _ _ _
   | exact ih1 _ _ _ _ _ _ _
   | exact LeO.none _
   | refine LeO.ite ?_ ?_
   | refine LeO.bind ?_ (fun _ => ?_)
  ·intro y0 y1 y2 y3 y4 y5 y6
   unfold impl_checkLetter.j1
   repeat' first
   | (with_reducible exact ih0 _ _ _ _)
   | (with_reducible exact ih1 _ _ _ _ _ _ _)
   | (with_reducible exact LeO.refl _)
   | (with_reducible exact LeO.none _)
   | (with_reducible refine LeO.ite ?_ ?_)
   | (with_reducible refine LeO.bind ?_ (fun _ => ?_))
   | exact ih0 _ _ _ _
   | exact ih1 _ _ _ _ _ _ _
   | exact LeO.none _
   | refine LeO.ite ?_ ?_
   | refine LeO.bind ?_ (fun _ => ?_)
theorem impl_checkLetter.mono : ∀ a0 k,LeO (impl_checkLetter.f k a0) (impl_checkLetter.f (k + 1) a0):=by
 intro a0 k
 obtain ⟨ih0,ih1⟩ := impl_checkLetter.mono_l k
 unfold impl_checkLetter.f
 repeat' first
   | (with_reducible exact ih0 _ _ _ _)
   | (with_reducible exact ih1 _ _ _ _ _ _ _)
   | (with_reducible exact LeO.refl _)
   | (with_reducible exact LeO.none _)
   | (with_reducible refine LeO.ite ?_ ?_)
   | (with_reducible refine LeO.bind ?_ (fun _ => ?_))
   | exact ih0 _ _ _ _
   | exact ih1 _ _ _ _ _ _ _
   | exact LeO.none _
   | refine LeO.ite ?_ ?_
   | refine LeO.bind ?_ (fun _ => ?_)
set_option maxHeartbeats 8000000 in
set_option maxRecDepth 100000 in
theorem impl_checkLetter.calls (k : Nat) (a0 : ByteArray) (r1 : Int) (r2 : Bool) (w : World) (h : impl_checkLetter.f k a0 = some (r1,r2)) :
  Calls Try.prog 64 #[.string a0] w fun e w' => e = .returned (.tuple #[.int .u8 r1, .bool r2]) ∧ Drawn0 w w':=by
 have H : (if (a0.size : Int) = 7 then (impl_checkLetter.l0 k a0 0 (a0.size : Int) 0) else (some (0,false))) = some (r1,r2):=h
 clear h
 by_cases c2 : (a0.size : Int) = 7
 ·rw [if_pos c2] at H
  have c2b0 : ((a0.size : Int) == 7) = true:=beq_iff_eq.mpr c2
  have c2b1 : ((a0.size : Int) != 7) = false:=bne_eq_false_iff_eq.mpr c2
  clear c2
  have H':=Aside0.mk H
  clear H
  go_enter Try.func64,Try.ntmps64
  go_wp2
  (skip)
  go_loopg [4,12] k (fun kq v4 v12 w' => ∃ (x4_1 : Int) (x12_1 : Int),v4 = .int .i64 x4_1 ∧ v12 = .int .i64 x12_1 ∧ Aside0 (impl_checkLetter.l0 kq a0 x4_1 (a0.size : Int) x12_1 = some (r1,r2)) ∧ Aside0 (kq ≤ k) ∧ Drawn0 w w')
  case atStart => exact ⟨(0),(0),(by rfl),(by rfl),H',⟨Nat.le_refl _⟩,by repeat (exact Drawn0.refl _)⟩
  case round =>
   clear H'
   try clear c2
   try clear c2b0
   try clear c2b1
   try clear p2
   obtain ⟨x4_1,x12_1,rfl,rfl,HA,HK1,⟨m1,rfl⟩⟩ := hrel
   cases gk with
   | zero => exact absurd HA.out (by simp [impl_checkLetter.l0])
   | succ k1 =>
    have H:=HA.out
    clear HA
    simp only [impl_checkLetter.l0] at H
    by_cases c3 : x12_1 < (a0.size : Int)
    ·rw [if_pos c3] at H
     have c3b0 : decide (x12_1 < (a0.size : Int)) = true:=decide_eq_true c3
     clear c3
     by_cases c4 : 0 ≤ x12_1
     ·rw [if_pos c4] at H
      have c4b0 : decide (0 ≤ x12_1) = true:=decide_eq_true c4
      clear c4
      by_cases c5 : x12_1 < (a0.size : Int)
      ·rw [if_pos c5] at H
       have c5b0 : decide (x12_1 < (a0.size : Int)) = true:=decide_eq_true c5
       clear c5
       have HC7:=Aside0.mk H
       clear H
       have p6 : 0 ≤ (x12_1 : Int):=of_decide_eq_true (by (with_reducible assumption))
       have q6 : x12_1 < (a0.size : Int):=of_decide_eq_true (by (with_reducible assumption))
       have hx6:=bt_at a0 x12_1
       replace p6:=eq_true p6
       replace q6:=eq_true q6
       go_upto_region 9 with (fail)
       go_cut [18] (fun v18 wc => ∃ (kq : Nat) (x18_6 : Bool),v18 = .bool x18_6 ∧ Aside0 (impl_checkLetter.j1 kq a0 x4_1 x12_1 (bt a0 x12_1) (a0.size : Int) x12_1 x18_6 = some (r1,r2)) ∧ Aside0 (kq ≤ k1) ∧ Drawn0 w wc)
       case first =>
        have H:=HC7.out
        clear HC7
        by_cases c8 : x12_1 < 3
        ·rw [if_pos c8] at H
         have c8b0 : decide (x12_1 < 3) = true:=decide_eq_true c8
         clear c8
         (skip)
         by_cases c9 : (bt a0 x12_1) ≥ 65
         ·rw [if_pos c9] at H
          have c9b0 : decide (65 ≤ (bt a0 x12_1)) = true:=decide_eq_true c9
          clear c9
          have H':=Aside0.mk H
          clear H
          go_wp2
          go_meet
          case rel => exact ⟨_,(decide ((bt a0 x12_1) ≤ 90)),(by rfl),H',⟨by have:=HK1.out;omega⟩,by repeat (first | exact Drawn0.refl _ | apply Drawn0.step)⟩
         ·rw [if_neg c9] at H
          have c9b0 : decide (65 ≤ (bt a0 x12_1)) = false:=decide_eq_false c9
          clear c9
          have H':=Aside0.mk H
          clear H
          go_wp2
          go_meet
          case rel => exact ⟨_,(false),(by rfl),H',⟨by have:=HK1.out;omega⟩,by repeat (first | exact Drawn0.refl _ | apply Drawn0.step)⟩
        ·rw [if_neg c8] at H
         have c8b0 : decide (x12_1 < 3) = false:=decide_eq_false c8
         clear c8
         (skip)
         have H':=Aside0.mk H
         clear H
         go_wp2
         go_meet
         case rel => exact ⟨_,(false),(by rfl),H',⟨by have:=HK1.out;omega⟩,by repeat (first | exact Drawn0.refl _ | apply Drawn0.step)⟩
       case rest =>
        clear HC7
        try clear c2
        try clear c2b0
        try clear c2b1
        try clear p2
        try clear c3
        try clear c3b0
        try clear c4
        try clear c4b0
        try clear c5
        try clear c5b0
        try clear c6
        try clear p6
        try clear q6
        try clear hx6
        try clear c8
        try clear c8b0
        try clear c9
        try clear c9b0
        try clear p2
        try clear p6
        try clear q6
        obtain ⟨kq,x18_6,rfl,HA,HJ6,⟨mc6,rfl⟩⟩ := hcut
        cases kq with
        | zero => exact absurd HA.out (by simp [impl_checkLetter.j1])
        | succ kj6 =>
         have H:=HA.out
         clear HA
         simp only [impl_checkLetter.j1] at H
         by_cases c10 : x18_6 = true
         ·subst c10
          have H1 : (impl_checkLetter.l0 kj6 a0 (wrap64 (x4_1 + (wrap64 ((wrap64 (x12_1 + 2)) * ((((bt a0 x12_1) - 65) % 256) + 1))))) (a0.size : Int) (wrap64 (x12_1 + 1))) = some (r1,r2):=by rw [if_pos rfl] at H;exact H
          clear H
          have H:=H1
          clear H1
          have H':=Aside0.mk H
          clear H
          go_wp2
          go_roundg kj6
          case measure => have:=HK1.out;have:=HJ6.out;omega
          case rel => exact ⟨(wrap64 (x4_1 + (wrap64 ((wrap64 (x12_1 + 2)) * ((((bt a0 x12_1) - 65) % 256) + 1))))),(wrap64 (x12_1 + 1)),(by rfl),(by rfl),H',⟨by have:=HK1.out;have:=HJ6.out;omega⟩,by repeat (first | exact Drawn0.refl _ | apply Drawn0.step)⟩
         ·replace c10:=Bool.eq_false_iff.mpr c10
          subst c10
          have H1 : (if x12_1 ≥ 3 then (if (bt a0 x12_1) ≥ 48 then (if (bt a0 x12_1) ≤ 57 then (impl_checkLetter.l0 kj6 a0 (wrap64 (x4_1 + (wrap64 ((wrap64 (x12_1 + 2)) * (((bt a0 x12_1) - 48) % 256))))) (a0.size : Int) (wrap64 (x12_1 + 1))) else (some (0,false))) else (some (0,false))) else (some (0,false))) = some (r1,r2):=by rw [if_neg (show ¬ (false = true) by decide)] at H;exact H
          clear H
          have H:=H1
          clear H1
          by_cases c11 : x12_1 ≥ 3
          ·rw [if_pos c11] at H
           have c11b0 : decide (3 ≤ x12_1) = true:=decide_eq_true c11
           clear c11
           by_cases c12 : (bt a0 x12_1) ≥ 48
           ·rw [if_pos c12] at H
            have c12b0 : decide (48 ≤ (bt a0 x12_1)) = true:=decide_eq_true c12
            clear c12
            by_cases c13 : (bt a0 x12_1) ≤ 57
            ·rw [if_pos c13] at H
             have c13b0 : decide ((bt a0 x12_1) ≤ 57) = true:=decide_eq_true c13
             clear c13
             have H':=Aside0.mk H
             clear H
             go_wp2
             go_roundg kj6
             case measure => have:=HK1.out;have:=HJ6.out;omega
             case rel => exact ⟨(wrap64 (x4_1 + (wrap64 ((wrap64 (x12_1 + 2)) * (((bt a0 x12_1) - 48) % 256))))),(wrap64 (x12_1 + 1)),(by rfl),(by rfl),H',⟨by have:=HK1.out;have:=HJ6.out;omega⟩,by repeat (first | exact Drawn0.refl _ | apply Drawn0.step)⟩
            ·rw [if_neg c13] at H
             have c13b0 : decide ((bt a0 x12_1) ≤ 57) = false:=decide_eq_false c13
             clear c13
             simp only [Option.some.injEq,Prod.mk.injEq] at H
             obtain ⟨rfl,rfl⟩ := H
             go_wp2
             go_ret2
             exact ⟨by rfl,by repeat (first | exact Drawn0.refl _ | apply Drawn0.step)⟩
           ·rw [if_neg c12] at H
            have c12b0 : decide (48 ≤ (bt a0 x12_1)) = false:=decide_eq_false c12
            clear c12
            simp only [Option.some.injEq,Prod.mk.injEq] at H
            obtain ⟨rfl,rfl⟩ := H
            go_wp2
            go_ret2
            exact ⟨by rfl,by repeat (first | exact Drawn0.refl _ | apply Drawn0.step)⟩
          ·rw [if_neg c11] at H
           have c11b0 : decide (3 ≤ x12_1) = false:=decide_eq_false c11
           clear c11
           simp only [Option.some.injEq,Prod.mk.injEq] at H
           obtain ⟨rfl,rfl⟩ := H
           go_wp2
           go_ret2
           exact ⟨by rfl,by repeat (first | exact Drawn0.refl _ | apply Drawn0.step)⟩
      ·rw [if_neg c5] at H
       exact absurd H (by simp)
     ·rw [if_neg c4] at H
      exact absurd H (by simp)
    ·rw [if_neg c3] at H
     have c3b0 : decide (x12_1 < (a0.size : Int)) = false:=decide_eq_false c3
     clear c3
     simp only [Option.some.injEq,Prod.mk.injEq] at H
     obtain ⟨rfl,rfl⟩ := H
     go_wp2
     go_ret2
     exact ⟨by rfl,by repeat (first | exact Drawn0.refl _ | apply Drawn0.step)⟩
 ·rw [if_neg c2] at H
  have c2b0 : ((a0.size : Int) == 7) = false:=beq_eq_false_iff_ne.mpr c2
  have c2b1 : ((a0.size : Int) != 7) = true:=bne_iff_ne.mpr c2
  simp only [Option.some.injEq,Prod.mk.injEq] at H
  obtain ⟨rfl,rfl⟩ := H
  go_enter Try.func64,Try.ntmps64
  go_wp2
  go_ret2
  exact ⟨by rfl,by repeat (exact Drawn0.refl _)⟩

/-! ### impl_IsValidId: function 51 -/
def impl_IsValidId.f (k : Nat) (a0 : ByteArray) : Option (Bool):=if (a0.size : Int) = 8 then (if 0 ≤ 7 then (if 7 ≤ (a0.size : Int) then ((impl_checkLetter.f k (a0.extract 0 7)).bind fun bt274 => (if bt274.2 = true then (if 7 < (a0.size : Int) then (some ((bt a0 7) == bt274.1)) else (none)) else (some false))) else (none)) else (none)) else (some false)
theorem impl_IsValidId.mono : ∀ a0 k,LeO (impl_IsValidId.f k a0) (impl_IsValidId.f (k + 1) a0):=by
 intro a0 k
 unfold impl_IsValidId.f
 repeat' first
   | (with_reducible exact impl_checkLetter.mono _ _)
   | (with_reducible exact LeO.refl _)
   | (with_reducible exact LeO.none _)
   | (with_reducible refine LeO.ite ?_ ?_)
   | (with_reducible refine LeO.bind ?_ (fun _ => ?_))
   | exact impl_checkLetter.mono _ _
   | exact LeO.none _
   | refine LeO.ite ?_ ?_
   | refine LeO.bind ?_ (fun _ => ?_)
set_option maxHeartbeats 8000000 in
set_option maxRecDepth 100000 in
theorem impl_IsValidId.calls (k : Nat) (a0 : ByteArray) (r : Bool) (w : World) (h : impl_IsValidId.f k a0 = some r) :
  Calls Try.prog 51 #[.string a0] w fun e w' => e = .returned (.bool r) ∧ Drawn0 w w':=by
 have H : (if (a0.size : Int) = 8 then (if 0 ≤ 7 then (if 7 ≤ (a0.size : Int) then ((impl_checkLetter.f k (a0.extract 0 7)).bind fun bt274 => (if bt274.2 = true then (if 7 < (a0.size : Int) then (some ((bt a0 7) == bt274.1)) else (none)) else (some false))) else (none)) else (none)) else (some false)) = some r:=h
 clear h
 by_cases c2 : (a0.size : Int) = 8
 ·rw [if_pos c2] at H
  have c2b0 : ((a0.size : Int) == 8) = true:=beq_iff_eq.mpr c2
  have c2b1 : ((a0.size : Int) != 8) = false:=bne_eq_false_iff_eq.mpr c2
  clear c2
  by_cases c3 : 0 ≤ 7
  ·rw [if_pos c3] at H
   have c3b0:=eq_true c3
   have c3b1 : decide (0 ≤ 7) = true:=decide_eq_true c3
   clear c3
   by_cases c4 : 7 ≤ (a0.size : Int)
   ·rw [if_pos c4] at H
    have c4b0:=eq_true c4
    have c4b1 : decide (7 ≤ (a0.size : Int)) = true:=decide_eq_true c4
    clear c4
    replace H:=Option.bind_eq_some_iff.mp H
    obtain ⟨⟨t274,t275⟩,A50,H⟩ := H
    replace H : (if t275 = true then (if 7 < (a0.size : Int) then (some ((bt a0 7) == t274)) else (none)) else (some false)) = some r:=H
    have A5:=Aside0.mk A50
    clear A50
    by_cases c6 : t275 = true
    ·subst c6
     have H1 : (if 7 < (a0.size : Int) then (some ((bt a0 7) == t274)) else (none)) = some r:=by rw [if_pos rfl] at H;exact H
     clear H
     have H:=H1
     clear H1
     by_cases c7 : 7 < (a0.size : Int)
     ·rw [if_pos c7] at H
      have c7b0 : decide (7 < (a0.size : Int)) = true:=decide_eq_true c7
      have c7b1 : decide (7 < a0.size) = true:=decide_eq_true (by omega)
      clear c7
      obtain rfl:=Option.some.inj H
      go_enter Try.func51,Try.ntmps51
      go_wp2_with (((with_reducible refine gate_callee (f:=64) rfl ?_);refine goesL_ (some 11) rfl rfl Try.func64 (by kernel_rfl) rfl #[.string (a0.extract 0 7)] rfl (by (try simp only [List.map_toArray,List.map_cons,List.map_nil]);rfl) ?_;(with_reducible refine (impl_checkLetter.calls k (a0.extract 0 7) t274 true _ A5.out).mono ?_);rintro e w' ⟨rfl,⟨nd,rfl⟩⟩;refine ⟨_,rfl, ?_⟩;have p8 : 0 ≤ (7 : Int):=(by omega);have q8 : 7 < a0.size:=(by have : (7 : Int) < (a0.size : Int):=of_decide_eq_true (by (with_reducible assumption));omega);have hx8 : ∀ h : 7 < a0.size,((a0[7]'h).toNat : Int) = bt a0 7:=bt_at a0 7;clear p8;have qi8 : (7 < (a0.size : Int)) = True:=eq_true (of_decide_eq_true (by (with_reducible assumption)));replace q8:=eq_true q8))
      go_ret
      exact ⟨by rfl,by repeat (first | exact Drawn0.refl _ | apply Drawn0.step)⟩
     ·rw [if_neg c7] at H
      exact absurd H (by simp)
    ·replace c6:=Bool.eq_false_iff.mpr c6
     subst c6
     have H1 : (some false) = some r:=by rw [if_neg (show ¬ (false = true) by decide)] at H;exact H
     clear H
     have H:=H1
     clear H1
     obtain rfl:=Option.some.inj H
     go_enter Try.func51,Try.ntmps51
     go_wp2_with (((with_reducible refine gate_callee (f:=64) rfl ?_);refine goesL_ (some 11) rfl rfl Try.func64 (by kernel_rfl) rfl #[.string (a0.extract 0 7)] rfl (by (try simp only [List.map_toArray,List.map_cons,List.map_nil]);rfl) ?_;(with_reducible refine (impl_checkLetter.calls k (a0.extract 0 7) t274 false _ A5.out).mono ?_);rintro e w' ⟨rfl,⟨nd,rfl⟩⟩;refine ⟨_,rfl, ?_⟩))
     go_ret
     exact ⟨by rfl,by repeat (first | exact Drawn0.refl _ | apply Drawn0.step)⟩
   ·rw [if_neg c4] at H
    exact absurd H (by simp)
  ·rw [if_neg c3] at H
   exact absurd H (by simp)
 ·rw [if_neg c2] at H
  have c2b0 : ((a0.size : Int) == 8) = false:=beq_eq_false_iff_ne.mpr c2
  have c2b1 : ((a0.size : Int) != 8) = true:=bne_iff_ne.mpr c2
  obtain rfl:=Option.some.inj H
  go_enter Try.func51,Try.ntmps51
  go_wp2
  go_ret
  exact ⟨by rfl,by repeat (exact Drawn0.refl _)⟩

end Go.Proofs.Yteebkbikpamkmaa.PFnHolds
