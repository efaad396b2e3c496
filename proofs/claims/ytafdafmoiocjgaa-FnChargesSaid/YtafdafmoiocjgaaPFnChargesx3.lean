-- Written by a program of this session, over the kit's print (wip/xprint.py)
import Derived.Test.YtafdafmoiocjgaaPFnChargesx0
import Derived.Test.YtafdafmoiocjgaaPFnChargesx1
import Derived.Test.YtafdafmoiocjgaaPFnChargesx2
namespace Go.Proofs.Ytafdafmoiocjgaa.PFnCharges
open Go.RowKit Go.Proofs.YtafdafmoiocjgaaW.PrintWords Go.Proofs.YtafdafmoiocjgaaW.PrintLast Go.Proofs.YtafdafmoiocjgaaW.PrintMore
attribute [local go_sem] max2_int min2_int max_two min_two max_three min_three max_four min_four   -- for this text's walks alone
set_option linter.unusedVariables false
set_option linter.unusedSimpArgs false

/-! ### spec_l1Cur_size22: function 44 -/
def spec_l1Cur_size22.f (s0_0 : List Int) (s0_1 : Int) (s0_2 : Int) : Option (Int × Int × Int):=(some (([1,2,1,2,0,3] : List Int) : List Int)).bind fun y188 => ((spec_l1Cur_pick.f s0_0 s0_1 s0_2 24).bind fun bt191 => (if 0 ≤ (wrap64 (4 + (wrap64 (Int.tdiv bt191.1 11)))) then (if (wrap64 (4 + (wrap64 (Int.tdiv bt191.1 11)))) ≤ (y188.length : Int) then ((spec_l1Cur_among.f s0_0 bt191.2.1 bt191.2.2 (y188.take ((wrap64 (4 + (wrap64 (Int.tdiv bt191.1 11)))) : Int).toNat)).bind fun bt198 => (some (bt198.1,bt198.2.1,bt198.2.2))) else (none)) else (none)))
set_option maxHeartbeats 8000000 in
set_option maxRecDepth 100000 in
theorem spec_l1Cur_size22.calls (g : Nat) (s0_0 : List Int) (s0_1 : Int) (s0_2 : Int) (r1 : Int) (r2 : Int) (r3 : Int) (w0 w : World) (hI : IsS58 w0 w g s0_0 s0_1 s0_2) (hB : Below w0.heap.size w0 w) (h : spec_l1Cur_size22.f s0_0 s0_1 s0_2 = some (r1,r2,r3)) :
  Calls Try.prog 44 #[.pointer (some ⟨g,0,none⟩)] w fun e w' => e = .returned (.int .i64 r1) ∧ IsS58 w0 w' g s0_0 r2 r3 ∧ Below w0.heap.size w0 w' ∧ KeepBut w w' g none:=by
 have HI0:=Aside0.mk hI
 have HK:=Aside0.mk (KeepBut.refl w g none)
 have HL:=Aside0.mk hB.size
 clear hI
 have HW0:=Aside0.mk hB.size
 have HB:=Aside0.mk hB
 clear hB
 have H : ((some (([1,2,1,2,0,3] : List Int) : List Int)).bind fun y188 => ((spec_l1Cur_pick.f s0_0 s0_1 s0_2 24).bind fun bt191 => (if 0 ≤ (wrap64 (4 + (wrap64 (Int.tdiv bt191.1 11)))) then (if (wrap64 (4 + (wrap64 (Int.tdiv bt191.1 11)))) ≤ (y188.length : Int) then ((spec_l1Cur_among.f s0_0 bt191.2.1 bt191.2.2 (y188.take ((wrap64 (4 + (wrap64 (Int.tdiv bt191.1 11)))) : Int).toNat)).bind fun bt198 => (some (bt198.1,bt198.2.1,bt198.2.2))) else (none)) else (none)))) = some (r1,r2,r3):=h
 clear h
 obtain ⟨y188,hy188⟩ : ∃ y_ : List Int,y_ = (([1,2,1,2,0,3] : List Int)):=⟨_,rfl⟩
 replace H : ((spec_l1Cur_pick.f s0_0 s0_1 s0_2 24).bind fun bt191 => (if 0 ≤ (wrap64 (4 + (wrap64 (Int.tdiv bt191.1 11)))) then (if (wrap64 (4 + (wrap64 (Int.tdiv bt191.1 11)))) ≤ (y188.length : Int) then ((spec_l1Cur_among.f s0_0 bt191.2.1 bt191.2.2 (y188.take ((wrap64 (4 + (wrap64 (Int.tdiv bt191.1 11)))) : Int).toNat)).bind fun bt198 => (some (bt198.1,bt198.2.1,bt198.2.2))) else (none)) else (none))) = some (r1,r2,r3):=by (have H2_:=(Option.bind_some _ _).symm.trans H;rw [hy188];with_reducible exact H2_)
 have Ny188:=Aside0.mk hy188
 clear hy188
 replace H:=Option.bind_eq_some_iff.mp H
 obtain ⟨⟨t191,t192,t193⟩,A20,H⟩ := H
 replace H : (if 0 ≤ (wrap64 (4 + (wrap64 (Int.tdiv t191 11)))) then (if (wrap64 (4 + (wrap64 (Int.tdiv t191 11)))) ≤ (y188.length : Int) then ((spec_l1Cur_among.f s0_0 t192 t193 (y188.take ((wrap64 (4 + (wrap64 (Int.tdiv t191 11)))) : Int).toNat)).bind fun bt198 => (some (bt198.1,bt198.2.1,bt198.2.2))) else (none)) else (none)) = some (r1,r2,r3):=H
 have A2:=Aside0.mk A20
 clear A20
 obtain ⟨ji3,hji3⟩ : ∃ j_ : Int,(wrap64 (4 + (wrap64 (Int.tdiv t191 11)))) = j_:=⟨_,rfl⟩
 replace H : (if 0 ≤ (ji3) then (if (ji3) ≤ (y188.length : Int) then ((spec_l1Cur_among.f s0_0 t192 t193 (y188.take ((ji3) : Int).toNat)).bind fun bt198 => (some (bt198.1,bt198.2.1,bt198.2.2))) else (none)) else (none)) = some (r1,r2,r3):=by (rw [hji3] at H;exact H)
 (skip)
 have hji3w : (IntKind.i64.wrap (4 + (wrap64 (Int.tdiv t191 11)))) = ji3:=(i64_w _).trans hji3
 by_cases c4 : 0 ≤ (ji3)
 ·rw [if_pos c4] at H
  have c4b0:=eq_true c4
  have c4b1 : decide (0 ≤ (ji3)) = true:=decide_eq_true c4
  clear c4
  by_cases c5 : (ji3) ≤ (y188.length : Int)
  ·rw [if_pos c5] at H
   have c5b0:=eq_true c5
   have c5b1 : decide ((ji3) ≤ (y188.length : Int)) = true:=decide_eq_true c5
   clear c5
   obtain ⟨y194,hy194⟩ : ∃ y_ : List Int,y_ = (y188.take ((ji3) : Int).toNat):=⟨_,rfl⟩
   replace H : ((spec_l1Cur_among.f s0_0 t192 t193 y194).bind fun bt198 => (some (bt198.1,bt198.2.1,bt198.2.2))) = some (r1,r2,r3):=by (rw [hy194];with_reducible exact H)
   have Ny194:=Aside0.mk hy194
   clear hy194
   replace H:=Option.bind_eq_some_iff.mp H
   obtain ⟨⟨t198,t199,t200⟩,A60,H⟩ := H
   replace H : (some (t198,t199,t200)) = some (r1,r2,r3):=H
   have A6:=Aside0.mk A60
   clear A60
   simp only [Option.some.injEq,Prod.mk.injEq] at H
   obtain ⟨rfl,rfl,rfl⟩ := H
   go_enter Try.func44,Try.ntmps44
   go_wp2_with (first | ((with_reducible refine gate_dst (N:=4) rfl ?_);refine Kd.R_lit (Kd.int .i64) _ 3 ?hg (N:=4) ?hd (xs:=([1,2,1,2,0,3] : List Int)) (inner := [.int .i64 1, .int .i64 2, .int .i64 1, .int .i64 2, .int .i64 0, .int .i64 3]) (ok:=fun _ => True) (okp:=fun _ => True) ?hr ?hp (fun _ hk => hk) trivial (Below.refl _ _) (Nat.le_refl _) (by simp) ?_;(case hd => rfl);(case hg => rfl);(case hr => (go_simp;done));(case hp => exact (Reps.one (show Kd.M (Kd.int .i64) _ _ _ 1 [.int .i64 1] from rfl) (Reps.one (show Kd.M (Kd.int .i64) _ _ _ 2 [.int .i64 2] from rfl) (Reps.one (show Kd.M (Kd.int .i64) _ _ _ 1 [.int .i64 1] from rfl) (Reps.one (show Kd.M (Kd.int .i64) _ _ _ 2 [.int .i64 2] from rfl) (Reps.one (show Kd.M (Kd.int .i64) _ _ _ 0 [.int .i64 0] from rfl) (Reps.one (show Kd.M (Kd.int .i64) _ _ _ 3 [.int .i64 3] from rfl) (Reps.none _ _))))))));intro v189 w7 ho8 hb hg_ hnew_;clear hg_ hnew_;(rw [← Ny188.out] at ho8);have n0_:=Aside0.mk (Kd.R_lower ho8 (keep_size (w:=w) (g:=g) (row:=none) (by exact HK.out)));have n1_:=Aside0.mk (IsS58.below (by exact HI0.out) hb);have n2_:=Aside0.mk (KeepBut.trans (by exact HK.out) (KeepBut.of_below hb g none) (.inl rfl));have n3_:=Aside0.mk (below_step (by exact HB.out) hb);clear HI0;clear HK;clear HB;have HO190:=n0_;have HI0:=n1_;have HK:=n2_;have HB:=n3_;clear n0_ n1_ n2_ n3_;clear hb ho8) | ((with_reducible refine gate_callee (f:=33) rfl ?_);refine goesL_ (some 6) rfl rfl Try.func33 (by kernel_rfl) rfl #[.pointer (some ⟨g,0,none⟩), .int .i64 24] rfl (by (try simp only [List.map_toArray,List.map_cons,List.map_nil]);rfl) ?_;(with_reducible refine (spec_l1Cur_pick.calls g s0_0 s0_1 s0_2 24 t191 t192 t193 w0 _ ?side1 ?side2 A2.out).mono ?_);(case side1 => exact HI0.out);(case side2 => exact HB.out);rintro e w9 ⟨rfl,hi,hb,hk⟩;refine ⟨_,rfl, ?_⟩;have n0_:=Aside0.mk (Kd.R_mono (Kd.R_keep (IsS58.apart (show IsS58 w0 _ g s0_0 s0_1 s0_2 from by exact HI0.out) (by exact HO190.out) (by decide)) hk (fun _ h => h.2)) (fun _ h => h.1));have n1_:=Aside0.mk (KeepBut.trans (by exact HK.out) hk (.inl rfl));have n2_:=Aside0.mk (hb);have n3_:=Aside0.mk (hi);clear HO190;clear HK;clear HB;clear HI0;have HO190:=n0_;have HK:=n1_;have HB:=n2_;have HI0:=n3_;clear n0_ n1_ n2_ n3_;(try clear hb);(try clear hk);(try clear hi);obtain ⟨Ao11,co11,eo11⟩ := Kd.R_slice HO190.out;subst eo11;have q10 : ((ji3) : Int) ≤ ((y188.length : Int) : Int):=of_decide_eq_true (by (with_reducible assumption));obtain ⟨i010,hi010,_,hsz10,_⟩ := info_parts info3;have hroom10 : y188.length ≤ co11:=(Kd.R_reads' HO190.out).2.1;have hC10 : Kd.C (Kd.int .i64) _ Ao11 y188.length y188:=(Kd.R_reads' HO190.out).2.2;have hcut10:=cut_to (P:=Try.prog) 43 3 .i64 Try.underlying43 hi010 Ao11 y188.length co11 (ji3) (of_decide_eq_true (by (with_reducible assumption))) q10 hroom10;have hr10:=Kd.C_take (m:=((ji3) : Int).toNat) hC10 (by omega);have hy10 : y194.length = ((ji3) : Int).toNat:=(by rw [Ny194.out,List.length_take];omega);rw [← Ny194.out] at hr10;rw [← hy10] at hcut10;have HR197:=Aside0.mk hr10;have HC197:=Aside0.mk (show y194.length ≤ co11 from by omega);clear hr10 hC10 hroom10 hi010 hsz10;have KY10:=Aside0.mk hy10;clear hy10;have KL10:=Aside0.mk (show ((ji3) : Int).toNat ≤ y188.length from by omega);replace q10:=eq_true q10) | ((with_reducible refine gate_callee (f:=36) rfl ?_);refine goesL_ (some 10) rfl rfl Try.func36 (by kernel_rfl) rfl #[.pointer (some ⟨g,0,none⟩), .slice Ao11 y194.length co11] rfl (by (try simp only [List.map_toArray,List.map_cons,List.map_nil]);rfl) ?_;(with_reducible refine (spec_l1Cur_among.calls g s0_0 t192 t193 _ _ y194 t198 t199 t200 w0 _ ?side1 ?side2 ?side3 ?side4 ?side5 A6.out).mono ?_);(case side1 => exact HI0.out);(case side2 => exact HB.out);(case side3 => repeat (exact (by exact HR197.out)));(case side4 => exact HC197.out);(case side5 => intro ad_ he_ hn_;exact far_slice (IsS58.own_ne HI0.out HO190.out (by decide)) ad_ he_ (by have h1_:=KL10.out;have h2_:=KY10.out;omega));rintro e w12 ⟨rfl,hi,hb,hk⟩;refine ⟨_,rfl, ?_⟩;have n0_:=Aside0.mk (Kd.R_mono (Kd.R_keep (IsS58.apart (show IsS58 w0 _ g s0_0 t192 t193 from by exact HI0.out) (by exact HO190.out) (by decide)) hk (fun _ h => h.2)) (fun _ h => h.1));have n1_:=Aside0.mk (KeepBut.trans (by exact HK.out) hk (.inl rfl));have n2_:=Aside0.mk (hb);have n3_:=Aside0.mk (hi);clear HO190;clear HK;clear HB;clear HI0;have HO190:=n0_;have HK:=n1_;have HB:=n2_;have HI0:=n3_;clear n0_ n1_ n2_ n3_;(try clear hb);(try clear hk);(try clear hi)))
   go_ret
   exact ⟨by rfl,by exact HI0.out,by exact HB.out,by exact HK.out⟩
  ·rw [if_neg c5] at H
   exact absurd H (by simp)
 ·rw [if_neg c4] at H
  exact absurd H (by simp)

/-! ### spec_l1Cur_stay: function 45 -/
def spec_l1Cur_stay.f (s0_0 : List Int) (s0_1 : Int) (s0_2 : Int) : Option (Int × Int × Int):=(some (([0,1,4,7,12,20,45,400,(-1),401] : List Int) : List Int)).bind fun y201 => ((spec_l1Cur_pick.f s0_0 s0_1 s0_2 24).bind fun bt204 => (if 0 ≤ (wrap64 (8 + (wrap64 (Int.tdiv bt204.1 11)))) then (if (wrap64 (8 + (wrap64 (Int.tdiv bt204.1 11)))) ≤ (y201.length : Int) then ((spec_l1Cur_among.f s0_0 bt204.2.1 bt204.2.2 (y201.take ((wrap64 (8 + (wrap64 (Int.tdiv bt204.1 11)))) : Int).toNat)).bind fun bt211 => (some (bt211.1,bt211.2.1,bt211.2.2))) else (none)) else (none)))
set_option maxHeartbeats 8000000 in
set_option maxRecDepth 100000 in
theorem spec_l1Cur_stay.calls (g : Nat) (s0_0 : List Int) (s0_1 : Int) (s0_2 : Int) (r1 : Int) (r2 : Int) (r3 : Int) (w0 w : World) (hI : IsS58 w0 w g s0_0 s0_1 s0_2) (hB : Below w0.heap.size w0 w) (h : spec_l1Cur_stay.f s0_0 s0_1 s0_2 = some (r1,r2,r3)) :
  Calls Try.prog 45 #[.pointer (some ⟨g,0,none⟩)] w fun e w' => e = .returned (.int .i64 r1) ∧ IsS58 w0 w' g s0_0 r2 r3 ∧ Below w0.heap.size w0 w' ∧ KeepBut w w' g none:=by
 have HI0:=Aside0.mk hI
 have HK:=Aside0.mk (KeepBut.refl w g none)
 have HL:=Aside0.mk hB.size
 clear hI
 have HW0:=Aside0.mk hB.size
 have HB:=Aside0.mk hB
 clear hB
 have H : ((some (([0,1,4,7,12,20,45,400,(-1),401] : List Int) : List Int)).bind fun y201 => ((spec_l1Cur_pick.f s0_0 s0_1 s0_2 24).bind fun bt204 => (if 0 ≤ (wrap64 (8 + (wrap64 (Int.tdiv bt204.1 11)))) then (if (wrap64 (8 + (wrap64 (Int.tdiv bt204.1 11)))) ≤ (y201.length : Int) then ((spec_l1Cur_among.f s0_0 bt204.2.1 bt204.2.2 (y201.take ((wrap64 (8 + (wrap64 (Int.tdiv bt204.1 11)))) : Int).toNat)).bind fun bt211 => (some (bt211.1,bt211.2.1,bt211.2.2))) else (none)) else (none)))) = some (r1,r2,r3):=h
 clear h
 obtain ⟨y201,hy201⟩ : ∃ y_ : List Int,y_ = (([0,1,4,7,12,20,45,400,(-1),401] : List Int)):=⟨_,rfl⟩
 replace H : ((spec_l1Cur_pick.f s0_0 s0_1 s0_2 24).bind fun bt204 => (if 0 ≤ (wrap64 (8 + (wrap64 (Int.tdiv bt204.1 11)))) then (if (wrap64 (8 + (wrap64 (Int.tdiv bt204.1 11)))) ≤ (y201.length : Int) then ((spec_l1Cur_among.f s0_0 bt204.2.1 bt204.2.2 (y201.take ((wrap64 (8 + (wrap64 (Int.tdiv bt204.1 11)))) : Int).toNat)).bind fun bt211 => (some (bt211.1,bt211.2.1,bt211.2.2))) else (none)) else (none))) = some (r1,r2,r3):=by (have H2_:=(Option.bind_some _ _).symm.trans H;rw [hy201];with_reducible exact H2_)
 have Ny201:=Aside0.mk hy201
 clear hy201
 replace H:=Option.bind_eq_some_iff.mp H
 obtain ⟨⟨t204,t205,t206⟩,A20,H⟩ := H
 replace H : (if 0 ≤ (wrap64 (8 + (wrap64 (Int.tdiv t204 11)))) then (if (wrap64 (8 + (wrap64 (Int.tdiv t204 11)))) ≤ (y201.length : Int) then ((spec_l1Cur_among.f s0_0 t205 t206 (y201.take ((wrap64 (8 + (wrap64 (Int.tdiv t204 11)))) : Int).toNat)).bind fun bt211 => (some (bt211.1,bt211.2.1,bt211.2.2))) else (none)) else (none)) = some (r1,r2,r3):=H
 have A2:=Aside0.mk A20
 clear A20
 obtain ⟨ji3,hji3⟩ : ∃ j_ : Int,(wrap64 (8 + (wrap64 (Int.tdiv t204 11)))) = j_:=⟨_,rfl⟩
 replace H : (if 0 ≤ (ji3) then (if (ji3) ≤ (y201.length : Int) then ((spec_l1Cur_among.f s0_0 t205 t206 (y201.take ((ji3) : Int).toNat)).bind fun bt211 => (some (bt211.1,bt211.2.1,bt211.2.2))) else (none)) else (none)) = some (r1,r2,r3):=by (rw [hji3] at H;exact H)
 (skip)
 have hji3w : (IntKind.i64.wrap (8 + (wrap64 (Int.tdiv t204 11)))) = ji3:=(i64_w _).trans hji3
 by_cases c4 : 0 ≤ (ji3)
 ·rw [if_pos c4] at H
  have c4b0:=eq_true c4
  have c4b1 : decide (0 ≤ (ji3)) = true:=decide_eq_true c4
  clear c4
  by_cases c5 : (ji3) ≤ (y201.length : Int)
  ·rw [if_pos c5] at H
   have c5b0:=eq_true c5
   have c5b1 : decide ((ji3) ≤ (y201.length : Int)) = true:=decide_eq_true c5
   clear c5
   obtain ⟨y207,hy207⟩ : ∃ y_ : List Int,y_ = (y201.take ((ji3) : Int).toNat):=⟨_,rfl⟩
   replace H : ((spec_l1Cur_among.f s0_0 t205 t206 y207).bind fun bt211 => (some (bt211.1,bt211.2.1,bt211.2.2))) = some (r1,r2,r3):=by (rw [hy207];with_reducible exact H)
   have Ny207:=Aside0.mk hy207
   clear hy207
   replace H:=Option.bind_eq_some_iff.mp H
   obtain ⟨⟨t211,t212,t213⟩,A60,H⟩ := H
   replace H : (some (t211,t212,t213)) = some (r1,r2,r3):=H
   have A6:=Aside0.mk A60
   clear A60
   simp only [Option.some.injEq,Prod.mk.injEq] at H
   obtain ⟨rfl,rfl,rfl⟩ := H
   go_enter Try.func45,Try.ntmps45
   go_wp2_with (first | ((with_reducible refine gate_dst (N:=4) rfl ?_);refine Kd.R_lit (Kd.int .i64) _ 3 ?hg (N:=4) ?hd (xs:=([0,1,4,7,12,20,45,400,(-1),401] : List Int)) (inner := [.int .i64 0, .int .i64 1, .int .i64 4, .int .i64 7, .int .i64 12, .int .i64 20, .int .i64 45, .int .i64 400, .int .i64 (-1), .int .i64 401]) (ok:=fun _ => True) (okp:=fun _ => True) ?hr ?hp (fun _ hk => hk) trivial (Below.refl _ _) (Nat.le_refl _) (by simp) ?_;(case hd => rfl);(case hg => rfl);(case hr => (go_simp;done));(case hp => exact (Reps.one (show Kd.M (Kd.int .i64) _ _ _ 0 [.int .i64 0] from rfl) (Reps.one (show Kd.M (Kd.int .i64) _ _ _ 1 [.int .i64 1] from rfl) (Reps.one (show Kd.M (Kd.int .i64) _ _ _ 4 [.int .i64 4] from rfl) (Reps.one (show Kd.M (Kd.int .i64) _ _ _ 7 [.int .i64 7] from rfl) (Reps.one (show Kd.M (Kd.int .i64) _ _ _ 12 [.int .i64 12] from rfl) (Reps.one (show Kd.M (Kd.int .i64) _ _ _ 20 [.int .i64 20] from rfl) (Reps.one (show Kd.M (Kd.int .i64) _ _ _ 45 [.int .i64 45] from rfl) (Reps.one (show Kd.M (Kd.int .i64) _ _ _ 400 [.int .i64 400] from rfl) (Reps.one (show Kd.M (Kd.int .i64) _ _ _ (-1) [.int .i64 (-1)] from rfl) (Reps.one (show Kd.M (Kd.int .i64) _ _ _ 401 [.int .i64 401] from rfl) (Reps.none _ _))))))))))));intro v202 w7 ho8 hb hg_ hnew_;clear hg_ hnew_;(rw [← Ny201.out] at ho8);have n0_:=Aside0.mk (Kd.R_lower ho8 (keep_size (w:=w) (g:=g) (row:=none) (by exact HK.out)));have n1_:=Aside0.mk (IsS58.below (by exact HI0.out) hb);have n2_:=Aside0.mk (KeepBut.trans (by exact HK.out) (KeepBut.of_below hb g none) (.inl rfl));have n3_:=Aside0.mk (below_step (by exact HB.out) hb);clear HI0;clear HK;clear HB;have HO203:=n0_;have HI0:=n1_;have HK:=n2_;have HB:=n3_;clear n0_ n1_ n2_ n3_;clear hb ho8) | ((with_reducible refine gate_callee (f:=33) rfl ?_);refine goesL_ (some 6) rfl rfl Try.func33 (by kernel_rfl) rfl #[.pointer (some ⟨g,0,none⟩), .int .i64 24] rfl (by (try simp only [List.map_toArray,List.map_cons,List.map_nil]);rfl) ?_;(with_reducible refine (spec_l1Cur_pick.calls g s0_0 s0_1 s0_2 24 t204 t205 t206 w0 _ ?side1 ?side2 A2.out).mono ?_);(case side1 => exact HI0.out);(case side2 => exact HB.out);rintro e w9 ⟨rfl,hi,hb,hk⟩;refine ⟨_,rfl, ?_⟩;have n0_:=Aside0.mk (Kd.R_mono (Kd.R_keep (IsS58.apart (show IsS58 w0 _ g s0_0 s0_1 s0_2 from by exact HI0.out) (by exact HO203.out) (by decide)) hk (fun _ h => h.2)) (fun _ h => h.1));have n1_:=Aside0.mk (KeepBut.trans (by exact HK.out) hk (.inl rfl));have n2_:=Aside0.mk (hb);have n3_:=Aside0.mk (hi);clear HO203;clear HK;clear HB;clear HI0;have HO203:=n0_;have HK:=n1_;have HB:=n2_;have HI0:=n3_;clear n0_ n1_ n2_ n3_;(try clear hb);(try clear hk);(try clear hi);obtain ⟨Ao11,co11,eo11⟩ := Kd.R_slice HO203.out;subst eo11;have q10 : ((ji3) : Int) ≤ ((y201.length : Int) : Int):=of_decide_eq_true (by (with_reducible assumption));obtain ⟨i010,hi010,_,hsz10,_⟩ := info_parts info3;have hroom10 : y201.length ≤ co11:=(Kd.R_reads' HO203.out).2.1;have hC10 : Kd.C (Kd.int .i64) _ Ao11 y201.length y201:=(Kd.R_reads' HO203.out).2.2;have hcut10:=cut_to (P:=Try.prog) 43 3 .i64 Try.underlying43 hi010 Ao11 y201.length co11 (ji3) (of_decide_eq_true (by (with_reducible assumption))) q10 hroom10;have hr10:=Kd.C_take (m:=((ji3) : Int).toNat) hC10 (by omega);have hy10 : y207.length = ((ji3) : Int).toNat:=(by rw [Ny207.out,List.length_take];omega);rw [← Ny207.out] at hr10;rw [← hy10] at hcut10;have HR210:=Aside0.mk hr10;have HC210:=Aside0.mk (show y207.length ≤ co11 from by omega);clear hr10 hC10 hroom10 hi010 hsz10;have KY10:=Aside0.mk hy10;clear hy10;have KL10:=Aside0.mk (show ((ji3) : Int).toNat ≤ y201.length from by omega);replace q10:=eq_true q10) | ((with_reducible refine gate_callee (f:=36) rfl ?_);refine goesL_ (some 10) rfl rfl Try.func36 (by kernel_rfl) rfl #[.pointer (some ⟨g,0,none⟩), .slice Ao11 y207.length co11] rfl (by (try simp only [List.map_toArray,List.map_cons,List.map_nil]);rfl) ?_;(with_reducible refine (spec_l1Cur_among.calls g s0_0 t205 t206 _ _ y207 t211 t212 t213 w0 _ ?side1 ?side2 ?side3 ?side4 ?side5 A6.out).mono ?_);(case side1 => exact HI0.out);(case side2 => exact HB.out);(case side3 => repeat (exact (by exact HR210.out)));(case side4 => exact HC210.out);(case side5 => intro ad_ he_ hn_;exact far_slice (IsS58.own_ne HI0.out HO203.out (by decide)) ad_ he_ (by have h1_:=KL10.out;have h2_:=KY10.out;omega));rintro e w12 ⟨rfl,hi,hb,hk⟩;refine ⟨_,rfl, ?_⟩;have n0_:=Aside0.mk (Kd.R_mono (Kd.R_keep (IsS58.apart (show IsS58 w0 _ g s0_0 t205 t206 from by exact HI0.out) (by exact HO203.out) (by decide)) hk (fun _ h => h.2)) (fun _ h => h.1));have n1_:=Aside0.mk (KeepBut.trans (by exact HK.out) hk (.inl rfl));have n2_:=Aside0.mk (hb);have n3_:=Aside0.mk (hi);clear HO203;clear HK;clear HB;clear HI0;have HO203:=n0_;have HK:=n1_;have HB:=n2_;have HI0:=n3_;clear n0_ n1_ n2_ n3_;(try clear hb);(try clear hk);(try clear hi)))
   go_ret
   exact ⟨by rfl,by exact HI0.out,by exact HB.out,by exact HK.out⟩
  ·rw [if_neg c5] at H
   exact absurd H (by simp)
 ·rw [if_neg c4] at H
  exact absurd H (by simp)

/-! ### spec_DrawStayCharge: function 14 -/
def spec_DrawStayCharge.f (k : Nat) (l0 : List Int) : Option (Int × (List (S51)) × Int × Int × Int):=(spec_l1Cur_charge.f k l0 0 0).bind fun bt216 => ((spec_l1Cur_size22.f l0 bt216.2.2.2.1 bt216.2.2.2.2).bind fun bt224 => ((spec_l1Cur_stay.f l0 bt224.2.1 bt224.2.2).bind fun bt227 => (some (bt216.1,bt216.2.1,bt216.2.2.1,bt224.1,bt227.1))))
theorem spec_DrawStayCharge.mono : ∀ a0 k,LeO (spec_DrawStayCharge.f k a0) (spec_DrawStayCharge.f (k + 1) a0):=by
 intro a0 k
 unfold spec_DrawStayCharge.f
 repeat' first
   | (with_reducible exact spec_l1Cur_charge.mono _ _ _ _)
   | (with_reducible exact LeO.refl _)
   | (with_reducible exact LeO.none _)
   | (with_reducible refine LeO.ite ?_ ?_)
   | (with_reducible refine LeO.bind ?_ (fun _ => ?_))
   | exact spec_l1Cur_charge.mono _ _ _ _
   | exact LeO.none _
   | refine LeO.ite ?_ ?_
   | refine LeO.bind ?_ (fun _ => ?_)
def spec_DrawStayCharge.T3 : Bool × List (List Nat × List Nat):=(true,[([],[]),([],[]),([1],[1]),([],[]),([3,2],[3]),([0,4,0],[0]),([2,5,0,1,2,5],[2]),([4,6,0,1,2,3,4,5,6],[4])])
def spec_DrawStayCharge.B3 : List Nat := [0,0,2,0,14,31,63,127]
theorem spec_DrawStayCharge.tab3 : rtab .any (opsOf Try.f14 3) = spec_DrawStayCharge.T3:=by kernel_rfl
theorem spec_DrawStayCharge.bits3 : waitsOk spec_DrawStayCharge.T3.2 spec_DrawStayCharge.B3 = true:=by kernel_rfl
set_option maxHeartbeats 8000000 in
set_option maxRecDepth 100000 in
theorem spec_DrawStayCharge.calls (k : Nat) (A0 : Option Addr) (c0 : Nat) (l0 : List Int) (r1 : Int) (r2 : List (S51)) (r3 : Int) (r4 : Int) (r5 : Int) (w : World) (hr0 : Kd.C (Kd.int .u8) w A0 l0.length l0) (hc0 : l0.length ≤ c0) (h : spec_DrawStayCharge.f k l0 = some (r1,r2,r3,r4,r5)) :
  Calls Try.prog 14 #[.slice A0 l0.length c0] w fun e w' => ∃ v1_ : Value,e = .returned (.tuple #[.agg #[.int .i64 r1,v1_, .int .i64 r3], .int .i64 r4, .int .i64 r5]) ∧ Kd.R k51 51 w' w.heap.size (fun _ => True) v1_ r2 ∧ Below w.heap.size w w':=by
 have hu38:=Try.underlying38
 have hu58:=Try.underlying58
 have HR0:=Aside0.mk hr0
 have HC0:=Aside0.mk hc0
 clear hr0 hc0
 have HB:=Aside0.mk (Below.refl w.heap.size w)
 have H : ((spec_l1Cur_charge.f k l0 0 0).bind fun bt216 => ((spec_l1Cur_size22.f l0 bt216.2.2.2.1 bt216.2.2.2.2).bind fun bt224 => ((spec_l1Cur_stay.f l0 bt224.2.1 bt224.2.2).bind fun bt227 => (some (bt216.1,bt216.2.1,bt216.2.2.1,bt224.1,bt227.1))))) = some (r1,r2,r3,r4,r5):=h
 clear h
 replace H:=Option.bind_eq_some_iff.mp H
 obtain ⟨⟨t216,t217,t220,t221,t222⟩,A20,H⟩ := H
 replace H : ((spec_l1Cur_size22.f l0 t221 t222).bind fun bt224 => ((spec_l1Cur_stay.f l0 bt224.2.1 bt224.2.2).bind fun bt227 => (some (t216,t217,t220,bt224.1,bt227.1)))) = some (r1,r2,r3,r4,r5):=H
 have A2:=Aside0.mk A20
 clear A20
 replace H:=Option.bind_eq_some_iff.mp H
 obtain ⟨⟨t224,t225,t226⟩,A30,H⟩ := H
 replace H : ((spec_l1Cur_stay.f l0 t225 t226).bind fun bt227 => (some (t216,t217,t220,t224,bt227.1))) = some (r1,r2,r3,r4,r5):=H
 have A3:=Aside0.mk A30
 clear A30
 replace H:=Option.bind_eq_some_iff.mp H
 obtain ⟨⟨t227,t228,t229⟩,A40,H⟩ := H
 replace H : (some (t216,t217,t220,t224,t227)) = some (r1,r2,r3,r4,r5):=H
 have A4:=Aside0.mk A40
 clear A40
 simp only [Option.some.injEq,Prod.mk.injEq] at H
 obtain ⟨rfl,rfl,rfl,rfl,rfl⟩ := H
 go_enter Try.func14,Try.ntmps14
 try go_wp2_with (first | ((with_reducible refine gate_dst (N:=2) rfl ?_);refine box_event ?hg (N:=2) ?hd (cs:=#[.int .i64 0, .slice none 0 0, .int .i64 0]) (t:=38) ?hr ?_;(case hd => rfl);(case hg => rfl);(case hr => (go_simp;done));intro gb214 hg w5 hbox hb;have n0_:=Aside0.mk (below_step (by exact HB.out) hb);have n1_:=Aside0.mk (hbox);have n2_:=Aside0.mk ((by rw [hg];exact (below_size (by exact HB.out)) : w.heap.size ≤ gb214));have n3_:=Aside0.mk ((by rw [hg];exact (below_size (by exact HB.out)) : w.heap.size ≤ gb214));clear HB;have HB:=n0_;have BK214:=n1_;have GW214:=n2_;have GE214:=n3_;clear n0_ n1_ n2_ n3_;clear hb hbox hg) | ((with_reducible refine gate_dst (N:=9) rfl ?_);refine box_event ?hg (N:=9) ?hd (cs:=#[.slice A0 l0.length c0, .int .i64 0, .int .u64 0]) (t:=58) ?hr ?_;(case hd => rfl);(case hg => rfl);(case hr => (go_simp;done));intro gb215 hg w6 hbox hb;have n0_:=Aside0.mk (blk_below (g:=gb214) (o := .cells #[.int .i64 0, .slice none 0 0, .int .i64 0] 38 (0,0)) (by exact BK214.out) hb);have n1_:=Aside0.mk (below_step (by exact HB.out) hb);have n2_:=Aside0.mk ((by rw [hg];exact Nat.ne_of_lt (blk_lt (g:=gb214) (o := .cells #[.int .i64 0, .slice none 0 0, .int .i64 0] 38 (0,0)) (by exact BK214.out)) : gb214 ≠ gb215));have n3_:=Aside0.mk ((by rw [hg];exact Nat.ne_of_gt (blk_lt (g:=gb214) (o := .cells #[.int .i64 0, .slice none 0 0, .int .i64 0] 38 (0,0)) (by exact BK214.out)) : gb215 ≠ gb214));have n4_:=Aside0.mk ((show IsS58 w _ gb215 l0 0 0 from ⟨_,_,hbox,(by rw [hg];exact (below_size (by exact HB.out)) : w.heap.size ≤ gb215),HR0.out⟩));clear BK214;clear HB;have BK214:=n0_;have HB:=n1_;have NB214_215:=n2_;have NB215_214:=n3_;have HI215:=n4_;clear n0_ n1_ n2_ n3_ n4_;clear hb hbox hg) | ((with_reducible refine gate_callee (f:=43) rfl ?_);refine goesL_ (some 11) rfl rfl Try.func43 (by kernel_rfl) rfl #[.pointer (some ⟨gb215,0,none⟩)] rfl (by (try simp only [List.map_toArray,List.map_cons,List.map_nil]);rfl) ?_;(with_reducible refine (spec_l1Cur_charge.calls k gb215 l0 0 0 t216 t217 t220 t221 t222 w _ ?side1 ?side2 A2.out).mono ?_);(case side1 => exact HI215.out);(case side2 => exact HB.out);rintro e w7 ⟨v218,rfl,ho0,hi,hb,hk⟩;refine ⟨_,rfl, ?_⟩;have n0_:=Aside0.mk (KeepBut.blk hk (g':=gb214) (o := .cells #[.int .i64 0, .slice none 0 0, .int .i64 0] 38 (0,0)) (by exact BK214.out) NB214_215.out (by simp));have n1_:=Aside0.mk (Kd.R_lower ho0 (below_size (by exact HB.out)));have n2_:=Aside0.mk (hb);have n3_:=Aside0.mk (hi);clear BK214;clear HB;clear HI215;have BK214:=n0_;have HO219:=n1_;have HB:=n2_;have HI215:=n3_;clear n0_ n1_ n2_ n3_;(try clear hb);(try clear hk);(try clear hi);(try clear ho0)) | ((with_reducible refine gate_dst (N:=6) rfl ?_);refine box_event ?hg (N:=6) ?hd (cs:=#[.int .i64 0, .slice none 0 0, .int .i64 0]) (t:=38) ?hr ?_;(case hd => rfl);(case hg => rfl);(case hr => (go_simp;done));intro gb223 hg w8 hbox hb;have n0_:=Aside0.mk (Kd.R_below (by exact HO219.out) hb);have n1_:=Aside0.mk (blk_below (g:=gb214) (o := .cells #[.int .i64 0, .slice none 0 0, .int .i64 0] 38 (0,0)) (by exact BK214.out) hb);have n2_:=Aside0.mk (IsS58.below (by exact HI215.out) hb);have n3_:=Aside0.mk (below_step (by exact HB.out) hb);have n4_:=Aside0.mk (hbox);have n5_:=Aside0.mk ((by rw [hg];exact (below_size (by exact HB.out)) : w.heap.size ≤ gb223));have n6_:=Aside0.mk ((by rw [hg];exact (below_size (by exact HB.out)) : w.heap.size ≤ gb223));have n7_:=Aside0.mk ((by rw [hg];exact Nat.ne_of_lt (blk_lt (g:=gb214) (o := .cells #[.int .i64 0, .slice none 0 0, .int .i64 0] 38 (0,0)) (by exact BK214.out)) : gb214 ≠ gb223));have n8_:=Aside0.mk ((by rw [hg];exact Nat.ne_of_gt (blk_lt (g:=gb214) (o := .cells #[.int .i64 0, .slice none 0 0, .int .i64 0] 38 (0,0)) (by exact BK214.out)) : gb223 ≠ gb214));have n9_:=Aside0.mk ((by rw [hg];exact Nat.ne_of_lt (IsS58.lt (show IsS58 w _ gb215 l0 t221 t222 from by exact HI215.out)) : gb215 ≠ gb223));have n10_:=Aside0.mk ((by rw [hg];exact Nat.ne_of_gt (IsS58.lt (show IsS58 w _ gb215 l0 t221 t222 from by exact HI215.out)) : gb223 ≠ gb215));clear HO219;clear BK214;clear HI215;clear HB;have HO219:=n0_;have BK214:=n1_;have HI215:=n2_;have HB:=n3_;have BK223:=n4_;have GW223:=n5_;have GE223:=n6_;have NB214_223:=n7_;have NB223_214:=n8_;have NB215_223:=n9_;have NB223_215:=n10_;clear n0_ n1_ n2_ n3_ n4_ n5_ n6_ n7_ n8_ n9_ n10_;clear hb hbox hg;have hnb9:=NB223_214.out;have hnc9:=NB214_223.out;have hnb10:=NB223_215.out;have hnc10:=NB215_223.out;have hcz11_0 : w8.cell? ⟨gb223,0,none⟩ = some (.int .i64 0):=(blk_cell BK223.out 0).trans rfl;have hcz11_1 : w8.cell? ⟨gb223,1,none⟩ = some (.slice none 0 0):=(blk_cell BK223.out 1).trans rfl;have hcz11_2 : w8.cell? ⟨gb223,2,none⟩ = some (.int .i64 0):=(blk_cell BK223.out 2).trans rfl;have hfz11_0:=blk_frozen BK223.out 0;have hfz11_1:=blk_frozen BK223.out 1;have hfz11_2:=blk_frozen BK223.out 2;obtain ⟨Ao12,co12,eo12⟩ := Kd.R_slice HO219.out;subst eo12))
 have n0_ : Aside0 (Kd.R k51 51 (((w8.setCell ⟨gb223,0,none⟩ (.int .i64 t216)).setCell ⟨gb223,1,none⟩ (.slice Ao12 t217.length co12)).setCell ⟨gb223,2,none⟩ (.int .i64 t220)) w.heap.size (fun _ => True) (.slice Ao12 t217.length co12) t217):=⟨by exact Kd.R_mono (Kd.R_far (p:=⟨gb223,2,none⟩) (Kd.R_far (p:=⟨gb223,1,none⟩) (Kd.R_far (p:=⟨gb223,0,none⟩) (Kd.R_types HO219.out BK223.out (by decide)) (fun _ hk => hk.2) (.int .i64 t216)) (fun _ hk => hk.2) (.slice Ao12 t217.length co12)) (fun _ hk => hk.2) (.int .i64 t220)) (fun _ hk => trivial)⟩
 have n1_ : Aside0 ((((w8.setCell ⟨gb223,0,none⟩ (.int .i64 t216)).setCell ⟨gb223,1,none⟩ (.slice Ao12 t217.length co12)).setCell ⟨gb223,2,none⟩ (.int .i64 t220)).heap[gb214]? = some (.cells #[.int .i64 0, .slice none 0 0, .int .i64 0] 38 (0,0))):=⟨by refine blk_far ?_ NB214_223.out _;refine blk_far ?_ NB214_223.out _;refine blk_far ?_ NB214_223.out _;exact BK214.out⟩
 have n2_ : Aside0 ((((w8.setCell ⟨gb223,0,none⟩ (.int .i64 t216)).setCell ⟨gb223,1,none⟩ (.slice Ao12 t217.length co12)).setCell ⟨gb223,2,none⟩ (.int .i64 t220)).heap[gb223]? = some (.cells #[.int .i64 t216, .slice Ao12 t217.length co12, .int .i64 t220] 38 (0,0))):=⟨by refine blk_put (cs:=#[.int .i64 t216, .slice Ao12 t217.length co12, .int .i64 0]) ?_ 2 _ rfl;refine blk_put (cs:=#[.int .i64 t216, .slice none 0 0, .int .i64 0]) ?_ 1 _ rfl;refine blk_put (cs:=#[.int .i64 0, .slice none 0 0, .int .i64 0]) ?_ 0 _ rfl;exact BK223.out⟩
 have n3_ : Aside0 (IsS58 w (((w8.setCell ⟨gb223,0,none⟩ (.int .i64 t216)).setCell ⟨gb223,1,none⟩ (.slice Ao12 t217.length co12)).setCell ⟨gb223,2,none⟩ (.int .i64 t220)) gb215 l0 t221 t222):=⟨by repeat ((with_reducible first | exact HI215.out | refine IsS58.far ?_ NB215_223.out _))⟩
 have n4_ : Aside0 (Below w.heap.size w (((w8.setCell ⟨gb223,0,none⟩ (.int .i64 t216)).setCell ⟨gb223,1,none⟩ (.slice Ao12 t217.length co12)).setCell ⟨gb223,2,none⟩ (.int .i64 t220))):=⟨by repeat ((with_reducible first | exact HB.out | refine below_set ?_ GE223.out))⟩
 (try clear HO219)
 (try clear BK214)
 (try clear BK223)
 (try clear HI215)
 (try clear HB)
 generalize (((w8.setCell ⟨gb223,0,none⟩ (.int .i64 t216)).setCell ⟨gb223,1,none⟩ (.slice Ao12 t217.length co12)).setCell ⟨gb223,2,none⟩ (.int .i64 t220)) = w13 at n0_ n1_ n2_ n3_ n4_ ⊢
 have HO219:=n0_
 have BK214:=n1_
 have BK223:=n2_
 have HI215:=n3_
 have HB:=n4_
 clear n0_ n1_ n2_ n3_ n4_
 have n0_:=Aside0.mk (Kd.R_drew HO219.out)
 have n1_:=Aside0.mk (blk_drew BK214.out)
 have n2_:=Aside0.mk (blk_drew BK223.out)
 have n3_:=Aside0.mk (IsS58.drew HI215.out)
 have n4_:=Aside0.mk (below_drew1 HB.out)
 clear HO219
 clear BK214
 clear BK223
 clear HI215
 clear HB
 have HO219:=n0_
 have BK214:=n1_
 have BK223:=n2_
 have HI215:=n3_
 have HB:=n4_
 clear n0_ n1_ n2_ n3_ n4_
 refine start_ (n:=8) (S:=fun w' => w'.cell? ⟨gb223,0,none⟩ = some (.int .i64 t216) ∧ w'.cell? ⟨gb223,1,none⟩ = some (.slice Ao12 t217.length co12) ∧ w'.cell? ⟨gb223,2,none⟩ = some (.int .i64 t220)) (ds := []) #[false,false,false,false,false,false,false,false] (by kernel_rfl) rfl rfl ⟨(blk_cell BK223.out 0).trans rfl,(blk_cell BK223.out 1).trans rfl,(blk_cell BK223.out 2).trans rfl⟩ (fun hHeld => ?_);refine with_tabW spec_DrawStayCharge.tab3 spec_DrawStayCharge.bits3 (fun HT_ HW_ => ?_)
 generalize w13.drew = w14 at HO219 BK214 BK223 HI215 HB hHeld ⊢
 refine pure_ (i:=1) (N:=some 13) (v:=?_) (a':=?_) #[false,true,false,false,false,false,false,false] rfl rfl (any_of HT_.out (by kernel_rfl)) (fun _ _ _ h => h) (Or.inl ⟨by rfl, ?_⟩) ?_ ?_
 rotate_left
 ·intro w'
  go_simp
  with_reducible rfl
 rotate_left
 ·simp only [Act.put,sA_,s0_,s1_,i64_w,i32_w]
  rfl
 refine pure_ (i:=3) (N:=some 15) (v:=?_) (a':=?_) #[false,true,false,true,false,false,false,false] rfl rfl (any_of HT_.out (by kernel_rfl)) (fun _ _ _ h => h) (Or.inl ⟨by rfl, ?_⟩) ?_ ?_
 rotate_left
 ·intro w'
  go_simp
  with_reducible rfl
 rotate_left
 ·simp only [Act.put,sA_,s0_,s1_,i64_w,i32_w]
  rfl
 refine take_ (i:=0) (N:=some 12) (v:=?_) (a':=?_) #[true,true,false,true,false,false,false,false] rfl rfl (take_ofW HT_.out HW_.out (by kernel_rfl)) (fun _ _ _ h => h) (Or.inl ⟨by rfl, ?_⟩) hHeld ?_ ?_
 rotate_left
 ·rintro w' ⟨s0,s1,s2⟩
  go_simp
  with_reducible rfl
 rotate_left
 ·simp only [Act.put,sA_,s0_,s1_,i64_w,i32_w]
  rfl
 refine one_ (i:=2) (N:=some 14) #[true,true,true,true,false,false,false,false] rfl rfl (one_of HT_.out (by kernel_rfl)) (by decide) (fun K hK => ?_)
 refine goes_ Try.func44 (by kernel_rfl) rfl #[.pointer (some ⟨gb215,0,none⟩)] (by rfl) rfl rfl (by (try simp only [List.map_toArray,List.map_cons,List.map_nil]);rfl) ?_
 with_reducible refine (spec_l1Cur_size22.calls gb215 l0 t221 t222 t224 t225 t226 w _ ?side1 ?side2 A3.out).mono ?_
 (case side1 => exact HI215.out)
 (case side2 => exact HB.out)
 rintro e w15 ⟨rfl,hi,hb,hk⟩
 refine ⟨_,rfl, ?_⟩
 have n0_:=Aside0.mk (KeepBut.blk hk (g':=gb214) (o := .cells #[.int .i64 0, .slice none 0 0, .int .i64 0] 38 (0,0)) (by exact BK214.out) NB214_215.out (by simp))
 have n1_:=Aside0.mk (Kd.R_mono (Kd.R_keep (IsS58.apart (show IsS58 w _ gb215 l0 t221 t222 from by exact HI215.out) (by exact HO219.out) (by decide)) hk (fun _ h => h.2)) (fun _ h => h.1))
 have n2_:=Aside0.mk (KeepBut.blk hk (g':=gb223) (o := .cells #[.int .i64 t216, .slice Ao12 t217.length co12, .int .i64 t220] 38 (0,0)) (by exact BK223.out) NB223_215.out (by simp))
 have n3_:=Aside0.mk (hb)
 have n4_:=Aside0.mk (hi)
 clear BK214
 clear HO219
 clear BK223
 clear HB
 clear HI215
 have BK214:=n0_
 have HO219:=n1_
 have BK223:=n2_
 have HB:=n3_
 have HI215:=n4_
 clear n0_ n1_ n2_ n3_ n4_
 (try clear hb)
 (skip)
 (try clear hk)
 (try clear hi)
 refine hK.out _ _ ⟨(blk_cell BK223.out 0).trans rfl,(blk_cell BK223.out 1).trans rfl,(blk_cell BK223.out 2).trans rfl⟩ (fun hHeld => ?_)
 clear hK K
 refine norm_ (a':=?_) ?_ ?_
 rotate_left
 ·show Act.put _ (some 14) _ = _
  simp only [Act.put,sA_,s0_,s1_,i64_w,i32_w]
  rfl
 refine one_ (i:=4) (N:=some 16) #[true,true,true,true,true,false,false,false] rfl rfl (one_of HT_.out (by kernel_rfl)) (by decide) (fun K hK => ?_)
 refine goes_ Try.func45 (by kernel_rfl) rfl #[.pointer (some ⟨gb215,0,none⟩)] (by rfl) rfl rfl (by (try simp only [List.map_toArray,List.map_cons,List.map_nil]);rfl) ?_
 with_reducible refine (spec_l1Cur_stay.calls gb215 l0 t225 t226 t227 t228 t229 w _ ?side1 ?side2 A4.out).mono ?_
 (case side1 => exact HI215.out)
 (case side2 => exact HB.out)
 rintro e w16 ⟨rfl,hi,hb,hk⟩
 refine ⟨_,rfl, ?_⟩
 have n0_:=Aside0.mk (KeepBut.blk hk (g':=gb214) (o := .cells #[.int .i64 0, .slice none 0 0, .int .i64 0] 38 (0,0)) (by exact BK214.out) NB214_215.out (by simp))
 have n1_:=Aside0.mk (Kd.R_mono (Kd.R_keep (IsS58.apart (show IsS58 w _ gb215 l0 t225 t226 from by exact HI215.out) (by exact HO219.out) (by decide)) hk (fun _ h => h.2)) (fun _ h => h.1))
 have n2_:=Aside0.mk (KeepBut.blk hk (g':=gb223) (o := .cells #[.int .i64 t216, .slice Ao12 t217.length co12, .int .i64 t220] 38 (0,0)) (by exact BK223.out) NB223_215.out (by simp))
 have n3_:=Aside0.mk (hb)
 have n4_:=Aside0.mk (hi)
 clear BK214
 clear HO219
 clear BK223
 clear HB
 clear HI215
 have BK214:=n0_
 have HO219:=n1_
 have BK223:=n2_
 have HB:=n3_
 have HI215:=n4_
 clear n0_ n1_ n2_ n3_ n4_
 (try clear hb)
 (skip)
 (try clear hk)
 (try clear hi)
 refine hK.out _ _ ⟨(blk_cell BK223.out 0).trans rfl,(blk_cell BK223.out 1).trans rfl,(blk_cell BK223.out 2).trans rfl⟩ (fun hHeld => ?_)
 clear hK K
 refine norm_ (a':=?_) ?_ ?_
 rotate_left
 ·show Act.put _ (some 16) _ = _
  simp only [Act.put,sA_,s0_,s1_,i64_w,i32_w]
  rfl
 refine one_ (i:=5) (N:=none) #[true,true,true,true,true,true,false,false] rfl rfl (one_of HT_.out (by kernel_rfl)) (by decide) (fun K hK => ?_)
 have hs17 : w16.cell? ⟨gb214,0,none⟩ = some (.int .i64 0):=(blk_cell BK214.out 0).trans rfl
 have hfs17:=blk_frozen BK214.out 0
 have hns17_1:=NB223_214.out
 have hms17_1:=NB214_223.out
 have hs18 : w16.cell? ⟨gb214,1,none⟩ = some (.slice none 0 0):=(blk_cell BK214.out 1).trans rfl
 have hfs18:=blk_frozen BK214.out 1
 have hns18_1:=NB223_214.out
 have hms18_1:=NB214_223.out
 have hs19 : w16.cell? ⟨gb214,2,none⟩ = some (.int .i64 0):=(blk_cell BK214.out 2).trans rfl
 have hfs19:=blk_frozen BK214.out 2
 have hns19_1:=NB223_214.out
 have hms19_1:=NB214_223.out
 refine skip_ (w1:=?_) (by rfl) rfl ?_ ?_
 rotate_left
 ·go_simp
  rfl
 refine hK.out _ _ ⟨((cell_far (p:=⟨gb214,_,none⟩) NB223_214.out _).trans (((cell_far (p:=⟨gb214,_,none⟩) NB223_214.out _).trans (((cell_far (p:=⟨gb214,_,none⟩) NB223_214.out _).trans (hHeld.1)))))),((cell_far (p:=⟨gb214,_,none⟩) NB223_214.out _).trans (((cell_far (p:=⟨gb214,_,none⟩) NB223_214.out _).trans (((cell_far (p:=⟨gb214,_,none⟩) NB223_214.out _).trans (hHeld.2.1)))))),((cell_far (p:=⟨gb214,_,none⟩) NB223_214.out _).trans (((cell_far (p:=⟨gb214,_,none⟩) NB223_214.out _).trans (((cell_far (p:=⟨gb214,_,none⟩) NB223_214.out _).trans (hHeld.2.2))))))⟩ (fun hHeld => ?_)
 clear hK K
 refine pure_ (i:=6) (N:=some 3) (v:=?_) (a':=?_) #[true,true,true,true,true,true,true,false] rfl rfl (any_of HT_.out (by kernel_rfl)) (fun _ _ _ h => h) (Or.inl ⟨by rfl, ?_⟩) ?_ ?_
 rotate_left
 ·intro w'
  go_simp
  with_reducible rfl
 rotate_left
 ·simp only [Act.put,sA_,s0_,s1_,i64_w,i32_w]
  rfl
 refine pure_ (i:=7) (N:=some 4) (v:=?_) (a':=?_) #[true,true,true,true,true,true,true,true] rfl rfl (any_of HT_.out (by kernel_rfl)) (fun _ _ _ h => h) (Or.inl ⟨by rfl, ?_⟩) ?_ ?_
 rotate_left
 ·intro w'
  go_simp
  with_reducible rfl
 rotate_left
 ·simp only [Act.put,sA_,s0_,s1_,i64_w,i32_w]
  rfl
 refine done_ (done_of HT_.out (by kernel_rfl)) ?_
 try go_wp2
 refine bodyPost_ret (results_ctt rfl _ _ gb214 38 #[.int .i64 t216, .slice Ao12 t217.length co12, .int .i64 t220] (0,0) _ rfl (by refine blk_put (cs:=#[.int .i64 t216, .slice Ao12 t217.length co12, .int .i64 0]) ?_ 2 _ rfl;refine blk_put (cs:=#[.int .i64 t216, .slice none 0 0, .int .i64 0]) ?_ 1 _ rfl;refine blk_put (cs:=#[.int .i64 0, .slice none 0 0, .int .i64 0]) ?_ 0 _ rfl;exact BK214.out) Try.underlying38 rfl (by kernel_rfl)) rfl ?_
 exact ⟨_,by rfl,by exact Kd.R_mono (Kd.R_far (p:=⟨gb214,2,none⟩) (Kd.R_far (p:=⟨gb214,1,none⟩) (Kd.R_far (p:=⟨gb214,0,none⟩) (Kd.R_types HO219.out BK214.out (by decide)) (fun _ hk => hk.2) (.int .i64 t216)) (fun _ hk => hk.2) (.slice Ao12 t217.length co12)) (fun _ hk => hk.2) (.int .i64 t220)) (fun _ hk => trivial),by repeat ((with_reducible first | exact HB.out | refine below_set ?_ GE214.out))⟩

/-! ### impl_within: function 37 -/
def impl_within.f (a0 : Int) (a1 : Int) (a2 : Int) : Option (Bool):=if a0 ≥ a1 then (some (decide (a0 ≤ a2))) else (some false)
set_option maxHeartbeats 8000000 in
set_option maxRecDepth 100000 in
theorem impl_within.calls (a0 : Int) (a1 : Int) (a2 : Int) (r : Bool) (w : World) (h : impl_within.f a0 a1 a2 = some r) :
  Calls Try.prog 37 #[.int .i64 a0, .int .i64 a1, .int .i64 a2] w fun e w' => e = .returned (.bool r) ∧ Drawn0 w w':=by
 have H : (if a0 ≥ a1 then (some (decide (a0 ≤ a2))) else (some false)) = some r:=h
 clear h
 by_cases c4 : a0 ≥ a1
 ·rw [if_pos c4] at H
  have c4b0 : decide (a1 ≤ a0) = true:=decide_eq_true c4
  clear c4
  obtain rfl:=Option.some.inj H
  go_enter Try.func37,Try.ntmps37
  go_wp2
  go_ret
  exact ⟨by rfl,by repeat (exact Drawn0.refl _)⟩
 ·rw [if_neg c4] at H
  have c4b0 : decide (a1 ≤ a0) = false:=decide_eq_false c4
  clear c4
  obtain rfl:=Option.some.inj H
  go_enter Try.func37,Try.ntmps37
  go_wp2
  go_ret
  exact ⟨by rfl,by repeat (exact Drawn0.refl _)⟩

/-! ### impl_IsValidCharge_1: function 51 -/
def impl_IsValidCharge_1.f (a0_0 : Int) (a0_1 : Int) : Option (Bool):=(impl_within.f a0_0 1 100).bind fun t231 => (if t231 = true then ((impl_within.f a0_1 0 10000).bind fun t232 => (some (!t232))) else (some true))
set_option maxHeartbeats 8000000 in
set_option maxRecDepth 100000 in
theorem impl_IsValidCharge_1.calls (a0_0 : Int) (a0_1 : Int) (r : Bool) (w : World) (h : impl_IsValidCharge_1.f a0_0 a0_1 = some r) :
  Calls Try.prog 51 #[.agg #[.int .i64 a0_0, .int .i64 a0_1]] w fun e w' => e = .returned (.bool r) ∧ Below w.heap.size w w':=by
 have hu51:=Try.underlying51
 have HB:=Aside0.mk (Below.refl w.heap.size w)
 have H : ((impl_within.f a0_0 1 100).bind fun t231 => (if t231 = true then ((impl_within.f a0_1 0 10000).bind fun t232 => (some (!t232))) else (some true))) = some r:=h
 clear h
 replace H:=Option.bind_eq_some_iff.mp H
 obtain ⟨t231,A20,H⟩ := H
 replace H : (if t231 = true then ((impl_within.f a0_1 0 10000).bind fun t232 => (some (!t232))) else (some true)) = some r:=H
 have A2:=Aside0.mk A20
 clear A20
 by_cases c3 : t231 = true
 ·subst c3
  have H1 : ((impl_within.f a0_1 0 10000).bind fun t232 => (some (!t232))) = some r:=by rw [if_pos rfl] at H;exact H
  clear H
  have H:=H1
  clear H1
  replace H:=Option.bind_eq_some_iff.mp H
  obtain ⟨t232,A40,H⟩ := H
  replace H : (some (!t232)) = some r:=H
  have A4:=Aside0.mk A40
  clear A40
  obtain rfl:=Option.some.inj H
  go_enter Try.func51,Try.ntmps51
  go_wp2_with (first | ((with_reducible refine gate_dst (N:=1) rfl ?_);refine box_event ?hg (N:=1) ?hd (cs:=#[.int .i64 a0_0, .int .i64 a0_1]) (t:=51) ?hr ?_;(case hd => rfl);(case hg => rfl);(case hr => (go_simp;done));intro gb230 hg w5 hbox hb;have n0_:=Aside0.mk (below_step (by exact HB.out) hb);have n1_:=Aside0.mk (hbox);have n2_:=Aside0.mk ((by rw [hg];exact (below_size (by exact HB.out)) : w.heap.size ≤ gb230));have n3_:=Aside0.mk ((by rw [hg];exact (below_size (by exact HB.out)) : w.heap.size ≤ gb230));clear HB;have HB:=n0_;have BK230:=n1_;have GW230:=n2_;have GE230:=n3_;clear n0_ n1_ n2_ n3_;clear hb hbox hg;have hcz6_0 : w5.cell? ⟨gb230,0,none⟩ = some (.int .i64 a0_0):=(blk_cell BK230.out 0).trans rfl;have hcz6_1 : w5.cell? ⟨gb230,1,none⟩ = some (.int .i64 a0_1):=(blk_cell BK230.out 1).trans rfl;have hfz6_0:=blk_frozen BK230.out 0;have hfz6_1:=blk_frozen BK230.out 1) | ((with_reducible refine gate_callee (f:=37) rfl ?_);refine goesL_ (some 5) rfl rfl Try.func37 (by kernel_rfl) rfl #[.int .i64 a0_0, .int .i64 1, .int .i64 100] rfl (by (try simp only [List.map_toArray,List.map_cons,List.map_nil]);rfl) ?_;(with_reducible refine (impl_within.calls a0_0 1 100 true _ A2.out).mono ?_);rintro e w' ⟨rfl,⟨nd,rfl⟩⟩;refine ⟨_,rfl, ?_⟩) | (go_at_call 37;(with_reducible refine (impl_within.calls a0_1 0 10000 t232 _ A4.out).mono ?_);rintro e w' ⟨rfl,⟨nd,rfl⟩⟩))
  go_ret
  exact ⟨by rfl,by repeat ((with_reducible first | exact HB.out | apply pw_below_drewN))⟩
 ·replace c3:=Bool.eq_false_iff.mpr c3
  subst c3
  have H1 : (some true) = some r:=by rw [if_neg (show ¬ (false = true) by decide)] at H;exact H
  clear H
  have H:=H1
  clear H1
  obtain rfl:=Option.some.inj H
  go_enter Try.func51,Try.ntmps51
  go_wp2_with (first | ((with_reducible refine gate_dst (N:=1) rfl ?_);refine box_event ?hg (N:=1) ?hd (cs:=#[.int .i64 a0_0, .int .i64 a0_1]) (t:=51) ?hr ?_;(case hd => rfl);(case hg => rfl);(case hr => (go_simp;done));intro gb230 hg w7 hbox hb;have n0_:=Aside0.mk (below_step (by exact HB.out) hb);have n1_:=Aside0.mk (hbox);have n2_:=Aside0.mk ((by rw [hg];exact (below_size (by exact HB.out)) : w.heap.size ≤ gb230));have n3_:=Aside0.mk ((by rw [hg];exact (below_size (by exact HB.out)) : w.heap.size ≤ gb230));clear HB;have HB:=n0_;have BK230:=n1_;have GW230:=n2_;have GE230:=n3_;clear n0_ n1_ n2_ n3_;clear hb hbox hg;have hcz8_0 : w7.cell? ⟨gb230,0,none⟩ = some (.int .i64 a0_0):=(blk_cell BK230.out 0).trans rfl;have hcz8_1 : w7.cell? ⟨gb230,1,none⟩ = some (.int .i64 a0_1):=(blk_cell BK230.out 1).trans rfl;have hfz8_0:=blk_frozen BK230.out 0;have hfz8_1:=blk_frozen BK230.out 1) | ((with_reducible refine gate_callee (f:=37) rfl ?_);refine goesL_ (some 5) rfl rfl Try.func37 (by kernel_rfl) rfl #[.int .i64 a0_0, .int .i64 1, .int .i64 100] rfl (by (try simp only [List.map_toArray,List.map_cons,List.map_nil]);rfl) ?_;(with_reducible refine (impl_within.calls a0_0 1 100 false _ A2.out).mono ?_);rintro e w' ⟨rfl,⟨nd,rfl⟩⟩;refine ⟨_,rfl, ?_⟩))
  go_ret
  exact ⟨by rfl,by repeat ((with_reducible first | exact HB.out | apply pw_below_drewN))⟩

/-! ### slices_IndexFunc_impl_RateStep: function 61 -/
def slices_IndexFunc_impl_RateStep.l0 : Nat → List (S51) → Int → Int → Option (Int)
 | 0,_,_,_ => none
 | k + 1,x0,x7,x8 => if x8 < x7 then (if 0 ≤ x8 then (if x8 < (x0.length : Int) then ((impl_IsValidCharge_1.f ((rd_T51 x0 x8).f0) ((rd_T51 x0 x8).f1)).bind fun t234 => (if t234 = true then (some x8) else (slices_IndexFunc_impl_RateStep.l0 k x0 x7 (wrap64 (x8 + 1))))) else (none)) else (none)) else (some (-1))
def slices_IndexFunc_impl_RateStep.f (k : Nat) (l0 : List (S51))  : Option (Int):=slices_IndexFunc_impl_RateStep.l0 k l0 (l0.length : Int) 0
theorem slices_IndexFunc_impl_RateStep.mono_l : ∀ k,(∀ y0 y1 y2,LeO (slices_IndexFunc_impl_RateStep.l0 k y0 y1 y2) (slices_IndexFunc_impl_RateStep.l0 (k + 1) y0 y1 y2))
 | 0 => fun _ _ _ r h => by simp [slices_IndexFunc_impl_RateStep.l0] at h
 | k + 1 => by
  have ih0:=slices_IndexFunc_impl_RateStep.mono_l k
  ·intro y0 y1 y2
   unfold slices_IndexFunc_impl_RateStep.l0
   repeat' first
   | (with_reducible exact ih0 _ _ _)
   | (with_reducible exact LeO.refl _)
   | (with_reducible exact LeO.none _)
   | (with_reducible refine LeO.ite ?_ ?_)
   | (with_reducible refine LeO.bind ?_ (fun _ => ?_))
   | exact ih0 _ _ _
   | exact LeO.none _
   | refine LeO.ite ?_ ?_
   | refine LeO.bind ?_ (fun _ => ?_)
theorem slices_IndexFunc_impl_RateStep.mono : ∀ a0 k,LeO (slices_IndexFunc_impl_RateStep.f k a0) (slices_IndexFunc_impl_RateStep.f (k + 1) a0):=by
 intro a0 k
 have ih0:=slices_IndexFunc_impl_RateStep.mono_l k
 unfold slices_IndexFunc_impl_RateStep.f
 repeat' first
   | (with_reducible exact ih0 _ _ _)
   | (with_reducible exact LeO.refl _)
   | (with_reducible exact LeO.none _)
   | (with_reducible refine LeO.ite ?_ ?_)
   | (with_reducible refine LeO.bind ?_ (fun _ => ?_))
   | exact ih0 _ _ _
   | exact LeO.none _
   | refine LeO.ite ?_ ?_
   | refine LeO.bind ?_ (fun _ => ?_)
set_option maxHeartbeats 8000000 in
set_option maxRecDepth 100000 in
theorem slices_IndexFunc_impl_RateStep.calls (k : Nat) (A0 : Option Addr) (c0 : Nat) (l0 : List (S51))  (r : Int) (w : World) (hr0 : Kd.C k51 w A0 l0.length l0) (hc0 : l0.length ≤ c0) (h : slices_IndexFunc_impl_RateStep.f k l0 = some r) :
  Calls Try.prog 61 #[.slice A0 l0.length c0,(.func (.func 51) #[] #[])] w fun e w' => e = .returned (.int .i64 r) ∧ Below w.heap.size w w':=by
 have hu51:=Try.underlying51
 have HR0:=Aside0.mk hr0
 have HC0:=Aside0.mk hc0
 clear hr0 hc0
 have HB:=Aside0.mk (Below.refl w.heap.size w)
 have H : (slices_IndexFunc_impl_RateStep.l0 k l0 (l0.length : Int) 0) = some r:=h
 clear h
 have H':=Aside0.mk H
 clear H
 go_enter Try.func61,Try.ntmps61
 go_wp2
 go_loopg [8] k (fun kq v8 w' => ∃ (x8_1 : Int),v8 = .int .i64 x8_1 ∧ Aside0 (slices_IndexFunc_impl_RateStep.l0 kq l0 (l0.length : Int) x8_1 = some r) ∧ Aside0 (kq ≤ k) ∧ Aside0 (Below w.heap.size w w'))
 case atStart => exact ⟨(0),(by rfl),H',⟨Nat.le_refl _⟩,⟨by exact HB.out⟩⟩
 case round =>
  clear H'
  try clear p2
  obtain ⟨x8_1,rfl,HA,HK1,HB⟩ := hrel
  cases gk with
  | zero => exact absurd HA.out (by simp [slices_IndexFunc_impl_RateStep.l0])
  | succ k1 =>
   have H:=HA.out
   clear HA
   simp only [slices_IndexFunc_impl_RateStep.l0] at H
   by_cases c3 : x8_1 < (l0.length : Int)
   ·rw [if_pos c3] at H
    have c3b0 : decide (x8_1 < (l0.length : Int)) = true:=decide_eq_true c3
    clear c3
    by_cases c4 : 0 ≤ x8_1
    ·rw [if_pos c4] at H
     have c4b0 : decide (0 ≤ x8_1) = true:=decide_eq_true c4
     clear c4
     by_cases c5 : x8_1 < (l0.length : Int)
     ·rw [if_pos c5] at H
      have c5b0 : decide (x8_1 < (l0.length : Int)) = true:=decide_eq_true c5
      clear c5
      replace H:=Option.bind_eq_some_iff.mp H
      obtain ⟨t234,A60,H⟩ := H
      replace H : (if t234 = true then (some x8_1) else (slices_IndexFunc_impl_RateStep.l0 k1 l0 (l0.length : Int) (wrap64 (x8_1 + 1)))) = some r:=H
      have A6:=Aside0.mk A60
      clear A60
      by_cases c7 : t234 = true
      ·subst c7
       have H1 : (some x8_1) = some r:=by rw [if_pos rfl] at H;exact H
       clear H
       have H:=H1
       clear H1
       obtain rfl:=Option.some.inj H
       have p233 : 0 ≤ (x8_1 : Int):=of_decide_eq_true (by (with_reducible assumption))
       have q233 : x8_1 < (l0.length : Int):=of_decide_eq_true (by (with_reducible assumption))
       obtain ⟨ad233,e233,hx233_0,hx233_1⟩ := at_T51 HR0.out x8_1 p233 q233
       cases e233
       replace hx233_0:=(HB.out.cell (World.block_lt_of_cell? w _ hx233_0)).trans hx233_0
       replace hx233_1:=(HB.out.cell (World.block_lt_of_cell? w _ hx233_1)).trans hx233_1
       replace p233:=eq_true p233
       replace q233:=eq_true q233
       go_wp2_with (((with_reducible refine gateV_ (x := .tmp 11) rfl ?_);refine goesV_ (some 16) rfl rfl Try.func51 (by kernel_rfl) rfl #[.agg #[.int .i64 ((rd_T51 l0 x8_1).f0), .int .i64 ((rd_T51 l0 x8_1).f1)]] rfl rfl (by (try simp only [List.map_toArray,List.map_cons,List.map_nil]);rfl) ?_;(with_reducible refine (impl_IsValidCharge_1.calls ((rd_T51 l0 x8_1).f0) ((rd_T51 l0 x8_1).f1) true _ A6.out).mono ?_);rintro e w8 ⟨rfl,hb⟩;refine ⟨_,rfl, ?_⟩;have n0_:=Aside0.mk (below_step (by exact HB.out) hb);clear HB;have HB:=n0_;clear n0_;(try clear hb)))
       go_ret
       exact ⟨by rfl,by exact HB.out⟩
      ·replace c7:=Bool.eq_false_iff.mpr c7
       subst c7
       have H1 : (slices_IndexFunc_impl_RateStep.l0 k1 l0 (l0.length : Int) (wrap64 (x8_1 + 1))) = some r:=by rw [if_neg (show ¬ (false = true) by decide)] at H;exact H
       clear H
       have H:=H1
       clear H1
       have H':=Aside0.mk H
       clear H
       have p233 : 0 ≤ (x8_1 : Int):=of_decide_eq_true (by (with_reducible assumption))
       have q233 : x8_1 < (l0.length : Int):=of_decide_eq_true (by (with_reducible assumption))
       obtain ⟨ad233,e233,hx233_0,hx233_1⟩ := at_T51 HR0.out x8_1 p233 q233
       cases e233
       replace hx233_0:=(HB.out.cell (World.block_lt_of_cell? w _ hx233_0)).trans hx233_0
       replace hx233_1:=(HB.out.cell (World.block_lt_of_cell? w _ hx233_1)).trans hx233_1
       replace p233:=eq_true p233
       replace q233:=eq_true q233
       go_wp2_with (((with_reducible refine gateV_ (x := .tmp 11) rfl ?_);refine goesV_ (some 16) rfl rfl Try.func51 (by kernel_rfl) rfl #[.agg #[.int .i64 ((rd_T51 l0 x8_1).f0), .int .i64 ((rd_T51 l0 x8_1).f1)]] rfl rfl (by (try simp only [List.map_toArray,List.map_cons,List.map_nil]);rfl) ?_;(with_reducible refine (impl_IsValidCharge_1.calls ((rd_T51 l0 x8_1).f0) ((rd_T51 l0 x8_1).f1) false _ A6.out).mono ?_);rintro e w9 ⟨rfl,hb⟩;refine ⟨_,rfl, ?_⟩;have n0_:=Aside0.mk (below_step (by exact HB.out) hb);clear HB;have HB:=n0_;clear n0_;(try clear hb)))
       go_roundg k1
       case measure => have:=HK1.out;omega
       case rel => exact ⟨(wrap64 (x8_1 + 1)),(by rfl),H',⟨by have:=HK1.out;omega⟩,⟨by exact HB.out⟩⟩
     ·rw [if_neg c5] at H
      exact absurd H (by simp)
    ·rw [if_neg c4] at H
     exact absurd H (by simp)
   ·rw [if_neg c3] at H
    have c3b0 : decide (x8_1 < (l0.length : Int)) = false:=decide_eq_false c3
    clear c3
    obtain rfl:=Option.some.inj H
    go_wp2
    go_ret
    exact ⟨by rfl,by exact HB.out⟩

/-! ### slices_ContainsFunc_impl_RateStep: function 50 -/
def slices_ContainsFunc_impl_RateStep.f (k : Nat) (l0 : List (S51))  : Option (Bool):=(slices_IndexFunc_impl_RateStep.f k l0).bind fun t235 => (some (decide (t235 ≥ 0)))
theorem slices_ContainsFunc_impl_RateStep.mono : ∀ a0 k,LeO (slices_ContainsFunc_impl_RateStep.f k a0) (slices_ContainsFunc_impl_RateStep.f (k + 1) a0):=by
 intro a0 k
 unfold slices_ContainsFunc_impl_RateStep.f
 repeat' first
   | (with_reducible exact slices_IndexFunc_impl_RateStep.mono _ _)
   | (with_reducible exact LeO.refl _)
   | (with_reducible exact LeO.none _)
   | (with_reducible refine LeO.ite ?_ ?_)
   | (with_reducible refine LeO.bind ?_ (fun _ => ?_))
   | exact slices_IndexFunc_impl_RateStep.mono _ _
   | exact LeO.none _
   | refine LeO.ite ?_ ?_
   | refine LeO.bind ?_ (fun _ => ?_)
set_option maxHeartbeats 8000000 in
set_option maxRecDepth 100000 in
theorem slices_ContainsFunc_impl_RateStep.calls (k : Nat) (A0 : Option Addr) (c0 : Nat) (l0 : List (S51))  (r : Bool) (w : World) (hr0 : Kd.C k51 w A0 l0.length l0) (hc0 : l0.length ≤ c0) (h : slices_ContainsFunc_impl_RateStep.f k l0 = some r) :
  Calls Try.prog 50 #[.slice A0 l0.length c0,(.func (.func 51) #[] #[])] w fun e w' => e = .returned (.bool r) ∧ Below w.heap.size w w':=by
 have HR0:=Aside0.mk hr0
 have HC0:=Aside0.mk hc0
 clear hr0 hc0
 have HB:=Aside0.mk (Below.refl w.heap.size w)
 have H : ((slices_IndexFunc_impl_RateStep.f k l0).bind fun t235 => (some (decide (t235 ≥ 0)))) = some r:=h
 clear h
 replace H:=Option.bind_eq_some_iff.mp H
 obtain ⟨t235,A30,H⟩ := H
 replace H : (some (decide (t235 ≥ 0))) = some r:=H
 have A3:=Aside0.mk A30
 clear A30
 obtain rfl:=Option.some.inj H
 go_enter Try.func50,Try.ntmps50
 go_wp2_with (((with_reducible refine gate_callee (f:=61) rfl ?_);refine goesL_ (some 7) rfl rfl Try.func61 (by kernel_rfl) rfl #[.slice A0 l0.length c0,(.func (.func 51) #[] #[])] rfl (by (try simp only [List.map_toArray,List.map_cons,List.map_nil]);rfl) ?_;(with_reducible refine (slices_IndexFunc_impl_RateStep.calls k _ _ l0  t235 _ ?side1 ?side2 A3.out).mono ?_);(case side1 => repeat (exact HR0.out));(case side2 => exact HC0.out);rintro e w4 ⟨rfl,hb⟩;refine ⟨_,rfl, ?_⟩;have n0_:=Aside0.mk (below_step (by exact HB.out) hb);clear HB;have HB:=n0_;clear n0_;(try clear hb)))
 go_ret
 exact ⟨by rfl,by exact HB.out⟩

/-! ### impl_IsValidCharge: function 17 -/
def impl_IsValidCharge.f (k : Nat) (a0_0 : Int) (l0_1 : List (S51)) (a0_2 : Int) : Option (Bool):=(impl_within.f a0_0 0 30).bind fun t237 => (if t237 = true then ((impl_within.f (l0_1.length : Int) 1 6).bind fun t238 => (if t238 = true then ((impl_within.f a0_2 100 300).bind fun t239 => (if t239 = true then ((slices_ContainsFunc_impl_RateStep.f k l0_1).bind fun t240 => (some (!t240))) else (some false))) else (some false))) else (some false))
theorem impl_IsValidCharge.mono : ∀ a0 a1 a2 k,LeO (impl_IsValidCharge.f k a0 a1 a2) (impl_IsValidCharge.f (k + 1) a0 a1 a2):=by
 intro a0 a1 a2 k
 unfold impl_IsValidCharge.f
 repeat' first
   | (with_reducible exact slices_ContainsFunc_impl_RateStep.mono _ _)
   | (with_reducible exact LeO.refl _)
   | (with_reducible exact LeO.none _)
   | (with_reducible refine LeO.ite ?_ ?_)
   | (with_reducible refine LeO.bind ?_ (fun _ => ?_))
   | exact slices_ContainsFunc_impl_RateStep.mono _ _
   | exact LeO.none _
   | refine LeO.ite ?_ ?_
   | refine LeO.bind ?_ (fun _ => ?_)
set_option maxHeartbeats 8000000 in
set_option maxRecDepth 100000 in
theorem impl_IsValidCharge.calls (k : Nat) (a0_0 : Int) (A0_1 : Option Addr) (c0_1 : Nat) (l0_1 : List (S51)) (a0_2 : Int) (r : Bool) (w : World) (hr0_1 : Kd.C k51 w A0_1 l0_1.length l0_1) (hc0_1 : l0_1.length ≤ c0_1) (h : impl_IsValidCharge.f k a0_0 l0_1 a0_2 = some r) :
  Calls Try.prog 17 #[.agg #[.int .i64 a0_0, .slice A0_1 l0_1.length c0_1, .int .i64 a0_2]] w fun e w' => e = .returned (.bool r) ∧ Below w.heap.size w w':=by
 have hu38:=Try.underlying38
 have HR0_1:=Aside0.mk hr0_1
 have HC0_1:=Aside0.mk hc0_1
 clear hr0_1 hc0_1
 have HB:=Aside0.mk (Below.refl w.heap.size w)
 have H : ((impl_within.f a0_0 0 30).bind fun t237 => (if t237 = true then ((impl_within.f (l0_1.length : Int) 1 6).bind fun t238 => (if t238 = true then ((impl_within.f a0_2 100 300).bind fun t239 => (if t239 = true then ((slices_ContainsFunc_impl_RateStep.f k l0_1).bind fun t240 => (some (!t240))) else (some false))) else (some false))) else (some false))) = some r:=h
 clear h
 replace H:=Option.bind_eq_some_iff.mp H
 obtain ⟨t237,A20,H⟩ := H
 replace H : (if t237 = true then ((impl_within.f (l0_1.length : Int) 1 6).bind fun t238 => (if t238 = true then ((impl_within.f a0_2 100 300).bind fun t239 => (if t239 = true then ((slices_ContainsFunc_impl_RateStep.f k l0_1).bind fun t240 => (some (!t240))) else (some false))) else (some false))) else (some false)) = some r:=H
 have A2:=Aside0.mk A20
 clear A20
 by_cases c3 : t237 = true
 ·subst c3
  have H1 : ((impl_within.f (l0_1.length : Int) 1 6).bind fun t238 => (if t238 = true then ((impl_within.f a0_2 100 300).bind fun t239 => (if t239 = true then ((slices_ContainsFunc_impl_RateStep.f k l0_1).bind fun t240 => (some (!t240))) else (some false))) else (some false))) = some r:=by rw [if_pos rfl] at H;exact H
  clear H
  have H:=H1
  clear H1
  replace H:=Option.bind_eq_some_iff.mp H
  obtain ⟨t238,A40,H⟩ := H
  replace H : (if t238 = true then ((impl_within.f a0_2 100 300).bind fun t239 => (if t239 = true then ((slices_ContainsFunc_impl_RateStep.f k l0_1).bind fun t240 => (some (!t240))) else (some false))) else (some false)) = some r:=H
  have A4:=Aside0.mk A40
  clear A40
  by_cases c5 : t238 = true
  ·subst c5
   have H1 : ((impl_within.f a0_2 100 300).bind fun t239 => (if t239 = true then ((slices_ContainsFunc_impl_RateStep.f k l0_1).bind fun t240 => (some (!t240))) else (some false))) = some r:=by rw [if_pos rfl] at H;exact H
   clear H
   have H:=H1
   clear H1
   replace H:=Option.bind_eq_some_iff.mp H
   obtain ⟨t239,A60,H⟩ := H
   replace H : (if t239 = true then ((slices_ContainsFunc_impl_RateStep.f k l0_1).bind fun t240 => (some (!t240))) else (some false)) = some r:=H
   have A6:=Aside0.mk A60
   clear A60
   by_cases c7 : t239 = true
   ·subst c7
    have H1 : ((slices_ContainsFunc_impl_RateStep.f k l0_1).bind fun t240 => (some (!t240))) = some r:=by rw [if_pos rfl] at H;exact H
    clear H
    have H:=H1
    clear H1
    replace H:=Option.bind_eq_some_iff.mp H
    obtain ⟨t240,A80,H⟩ := H
    replace H : (some (!t240)) = some r:=H
    have A8:=Aside0.mk A80
    clear A80
    obtain rfl:=Option.some.inj H
    go_enter Try.func17,Try.ntmps17
    go_wp2_with (first | ((with_reducible refine gate_dst (N:=1) rfl ?_);(try (refine gate_guard (by rfl) ?_;dsimp only));refine box_event ?hg (N:=1) ?hd (cs:=#[.int .i64 a0_0, .slice A0_1 l0_1.length c0_1, .int .i64 a0_2]) (t:=38) ?hr ?_;(case hd => rfl);(case hg => rfl);(case hr => (go_simp;done));intro gb236 hg w9 hbox hb;have n0_:=Aside0.mk (below_step (by exact HB.out) hb);have n1_:=Aside0.mk (hbox);have n2_:=Aside0.mk ((by rw [hg];exact (below_size (by exact HB.out)) : w.heap.size ≤ gb236));have n3_:=Aside0.mk ((by rw [hg];exact (below_size (by exact HB.out)) : w.heap.size ≤ gb236));clear HB;have HB:=n0_;have BK236:=n1_;have GW236:=n2_;have GE236:=n3_;clear n0_ n1_ n2_ n3_;clear hb hbox hg;have hcz10_0 : w9.cell? ⟨gb236,0,none⟩ = some (.int .i64 a0_0):=(blk_cell BK236.out 0).trans rfl;have hcz10_1 : w9.cell? ⟨gb236,1,none⟩ = some (.slice A0_1 l0_1.length c0_1):=(blk_cell BK236.out 1).trans rfl;have hcz10_2 : w9.cell? ⟨gb236,2,none⟩ = some (.int .i64 a0_2):=(blk_cell BK236.out 2).trans rfl;have hfz10_0:=blk_frozen BK236.out 0;have hfz10_1:=blk_frozen BK236.out 1;have hfz10_2:=blk_frozen BK236.out 2) | ((with_reducible refine gate_callee (f:=37) rfl ?_);refine goesL_ (some 5) rfl rfl Try.func37 (by kernel_rfl) rfl #[.int .i64 a0_0, .int .i64 0, .int .i64 30] rfl (by (try simp only [List.map_toArray,List.map_cons,List.map_nil]);rfl) ?_;(with_reducible refine (impl_within.calls a0_0 0 30 true _ A2.out).mono ?_);rintro e w' ⟨rfl,⟨nd,rfl⟩⟩;refine ⟨_,rfl, ?_⟩) | (go_at_call 37;(with_reducible refine (impl_within.calls (l0_1.length : Int) 1 6 true _ A4.out).mono ?_);rintro e w' ⟨rfl,⟨nd,rfl⟩⟩) | (go_at_call 37;(with_reducible refine (impl_within.calls a0_2 100 300 true _ A6.out).mono ?_);rintro e w' ⟨rfl,⟨nd,rfl⟩⟩) | ((with_reducible refine gate_callee (f:=50) rfl ?_);refine goesL_ (some 22) rfl rfl Try.func50 (by kernel_rfl) rfl #[.slice A0_1 l0_1.length c0_1,(.func (.func 51) #[] #[])] rfl (by (try simp only [List.map_toArray,List.map_cons,List.map_nil]);rfl) ?_;(with_reducible refine (slices_ContainsFunc_impl_RateStep.calls k _ _ l0_1  t240 _ ?side1 ?side2 A8.out).mono ?_);(case side1 => repeat (exact (Kd.C_below HR0_1.out (by repeat ((with_reducible first | exact HB.out | apply pw_below_drewN))))));(case side2 => exact HC0_1.out);rintro e w11 ⟨rfl,hb⟩;refine ⟨_,rfl, ?_⟩;have n0_:=Aside0.mk (blk_below (g:=gb236) (o := .cells #[.int .i64 a0_0, .slice A0_1 l0_1.length c0_1, .int .i64 a0_2] 38 (0,0)) (by (with_reducible repeat (refine blk_drewN ?_ _));exact BK236.out) hb);have n1_:=Aside0.mk (below_step (by repeat ((with_reducible first | exact HB.out | apply pw_below_drewN))) hb);clear BK236;clear HB;have BK236:=n0_;have HB:=n1_;clear n0_ n1_;(try clear hb)))
    go_ret
    exact ⟨by rfl,by exact HB.out⟩
   ·replace c7:=Bool.eq_false_iff.mpr c7
    subst c7
    have H1 : (some false) = some r:=by rw [if_neg (show ¬ (false = true) by decide)] at H;exact H
    clear H
    have H:=H1
    clear H1
    obtain rfl:=Option.some.inj H
    go_enter Try.func17,Try.ntmps17
    go_wp2_with (first | ((with_reducible refine gate_dst (N:=1) rfl ?_);(try (refine gate_guard (by rfl) ?_;dsimp only));refine box_event ?hg (N:=1) ?hd (cs:=#[.int .i64 a0_0, .slice A0_1 l0_1.length c0_1, .int .i64 a0_2]) (t:=38) ?hr ?_;(case hd => rfl);(case hg => rfl);(case hr => (go_simp;done));intro gb236 hg w12 hbox hb;have n0_:=Aside0.mk (below_step (by exact HB.out) hb);have n1_:=Aside0.mk (hbox);have n2_:=Aside0.mk ((by rw [hg];exact (below_size (by exact HB.out)) : w.heap.size ≤ gb236));have n3_:=Aside0.mk ((by rw [hg];exact (below_size (by exact HB.out)) : w.heap.size ≤ gb236));clear HB;have HB:=n0_;have BK236:=n1_;have GW236:=n2_;have GE236:=n3_;clear n0_ n1_ n2_ n3_;clear hb hbox hg;have hcz13_0 : w12.cell? ⟨gb236,0,none⟩ = some (.int .i64 a0_0):=(blk_cell BK236.out 0).trans rfl;have hcz13_1 : w12.cell? ⟨gb236,1,none⟩ = some (.slice A0_1 l0_1.length c0_1):=(blk_cell BK236.out 1).trans rfl;have hcz13_2 : w12.cell? ⟨gb236,2,none⟩ = some (.int .i64 a0_2):=(blk_cell BK236.out 2).trans rfl;have hfz13_0:=blk_frozen BK236.out 0;have hfz13_1:=blk_frozen BK236.out 1;have hfz13_2:=blk_frozen BK236.out 2) | ((with_reducible refine gate_callee (f:=37) rfl ?_);refine goesL_ (some 5) rfl rfl Try.func37 (by kernel_rfl) rfl #[.int .i64 a0_0, .int .i64 0, .int .i64 30] rfl (by (try simp only [List.map_toArray,List.map_cons,List.map_nil]);rfl) ?_;(with_reducible refine (impl_within.calls a0_0 0 30 true _ A2.out).mono ?_);rintro e w' ⟨rfl,⟨nd,rfl⟩⟩;refine ⟨_,rfl, ?_⟩) | (go_at_call 37;(with_reducible refine (impl_within.calls (l0_1.length : Int) 1 6 true _ A4.out).mono ?_);rintro e w' ⟨rfl,⟨nd,rfl⟩⟩) | (go_at_call 37;(with_reducible refine (impl_within.calls a0_2 100 300 false _ A6.out).mono ?_);rintro e w' ⟨rfl,⟨nd,rfl⟩⟩))
    go_ret
    exact ⟨by rfl,by repeat ((with_reducible first | exact HB.out | apply pw_below_drewN))⟩
  ·replace c5:=Bool.eq_false_iff.mpr c5
   subst c5
   have H1 : (some false) = some r:=by rw [if_neg (show ¬ (false = true) by decide)] at H;exact H
   clear H
   have H:=H1
   clear H1
   obtain rfl:=Option.some.inj H
   go_enter Try.func17,Try.ntmps17
   go_wp2_with (first | ((with_reducible refine gate_dst (N:=1) rfl ?_);(try (refine gate_guard (by rfl) ?_;dsimp only));refine box_event ?hg (N:=1) ?hd (cs:=#[.int .i64 a0_0, .slice A0_1 l0_1.length c0_1, .int .i64 a0_2]) (t:=38) ?hr ?_;(case hd => rfl);(case hg => rfl);(case hr => (go_simp;done));intro gb236 hg w14 hbox hb;have n0_:=Aside0.mk (below_step (by exact HB.out) hb);have n1_:=Aside0.mk (hbox);have n2_:=Aside0.mk ((by rw [hg];exact (below_size (by exact HB.out)) : w.heap.size ≤ gb236));have n3_:=Aside0.mk ((by rw [hg];exact (below_size (by exact HB.out)) : w.heap.size ≤ gb236));clear HB;have HB:=n0_;have BK236:=n1_;have GW236:=n2_;have GE236:=n3_;clear n0_ n1_ n2_ n3_;clear hb hbox hg;have hcz15_0 : w14.cell? ⟨gb236,0,none⟩ = some (.int .i64 a0_0):=(blk_cell BK236.out 0).trans rfl;have hcz15_1 : w14.cell? ⟨gb236,1,none⟩ = some (.slice A0_1 l0_1.length c0_1):=(blk_cell BK236.out 1).trans rfl;have hcz15_2 : w14.cell? ⟨gb236,2,none⟩ = some (.int .i64 a0_2):=(blk_cell BK236.out 2).trans rfl;have hfz15_0:=blk_frozen BK236.out 0;have hfz15_1:=blk_frozen BK236.out 1;have hfz15_2:=blk_frozen BK236.out 2) | ((with_reducible refine gate_callee (f:=37) rfl ?_);refine goesL_ (some 5) rfl rfl Try.func37 (by kernel_rfl) rfl #[.int .i64 a0_0, .int .i64 0, .int .i64 30] rfl (by (try simp only [List.map_toArray,List.map_cons,List.map_nil]);rfl) ?_;(with_reducible refine (impl_within.calls a0_0 0 30 true _ A2.out).mono ?_);rintro e w' ⟨rfl,⟨nd,rfl⟩⟩;refine ⟨_,rfl, ?_⟩) | (go_at_call 37;(with_reducible refine (impl_within.calls (l0_1.length : Int) 1 6 false _ A4.out).mono ?_);rintro e w' ⟨rfl,⟨nd,rfl⟩⟩))
   go_ret
   exact ⟨by rfl,by repeat ((with_reducible first | exact HB.out | apply pw_below_drewN))⟩
 ·replace c3:=Bool.eq_false_iff.mpr c3
  subst c3
  have H1 : (some false) = some r:=by rw [if_neg (show ¬ (false = true) by decide)] at H;exact H
  clear H
  have H:=H1
  clear H1
  obtain rfl:=Option.some.inj H
  go_enter Try.func17,Try.ntmps17
  go_wp2_with (first | ((with_reducible refine gate_dst (N:=1) rfl ?_);(try (refine gate_guard (by rfl) ?_;dsimp only));refine box_event ?hg (N:=1) ?hd (cs:=#[.int .i64 a0_0, .slice A0_1 l0_1.length c0_1, .int .i64 a0_2]) (t:=38) ?hr ?_;(case hd => rfl);(case hg => rfl);(case hr => (go_simp;done));intro gb236 hg w16 hbox hb;have n0_:=Aside0.mk (below_step (by exact HB.out) hb);have n1_:=Aside0.mk (hbox);have n2_:=Aside0.mk ((by rw [hg];exact (below_size (by exact HB.out)) : w.heap.size ≤ gb236));have n3_:=Aside0.mk ((by rw [hg];exact (below_size (by exact HB.out)) : w.heap.size ≤ gb236));clear HB;have HB:=n0_;have BK236:=n1_;have GW236:=n2_;have GE236:=n3_;clear n0_ n1_ n2_ n3_;clear hb hbox hg;have hcz17_0 : w16.cell? ⟨gb236,0,none⟩ = some (.int .i64 a0_0):=(blk_cell BK236.out 0).trans rfl;have hcz17_1 : w16.cell? ⟨gb236,1,none⟩ = some (.slice A0_1 l0_1.length c0_1):=(blk_cell BK236.out 1).trans rfl;have hcz17_2 : w16.cell? ⟨gb236,2,none⟩ = some (.int .i64 a0_2):=(blk_cell BK236.out 2).trans rfl;have hfz17_0:=blk_frozen BK236.out 0;have hfz17_1:=blk_frozen BK236.out 1;have hfz17_2:=blk_frozen BK236.out 2) | ((with_reducible refine gate_callee (f:=37) rfl ?_);refine goesL_ (some 5) rfl rfl Try.func37 (by kernel_rfl) rfl #[.int .i64 a0_0, .int .i64 0, .int .i64 30] rfl (by (try simp only [List.map_toArray,List.map_cons,List.map_nil]);rfl) ?_;(with_reducible refine (impl_within.calls a0_0 0 30 false _ A2.out).mono ?_);rintro e w' ⟨rfl,⟨nd,rfl⟩⟩;refine ⟨_,rfl, ?_⟩))
  go_ret
  exact ⟨by rfl,by repeat ((with_reducible first | exact HB.out | apply pw_below_drewN))⟩

/-! ### impl_isStay: function 46 -/
def impl_isStay.f (k : Nat) (a0_0 : Int) (l0_1 : List (S51)) (a0_2 : Int) (a1 : Int) (a2 : Int) : Option (Bool):=(impl_IsValidCharge.f k a0_0 l0_1 a0_2).bind fun t242 => (if t242 = true then ((impl_within.f a1 1 2).bind fun t243 => (if t243 = true then ((impl_within.f a2 0 400).bind fun t244 => (some t244)) else (some false))) else (some false))
theorem impl_isStay.mono : ∀ a0 a1 a2 a3 a4 k,LeO (impl_isStay.f k a0 a1 a2 a3 a4) (impl_isStay.f (k + 1) a0 a1 a2 a3 a4):=by
 intro a0 a1 a2 a3 a4 k
 unfold impl_isStay.f
 repeat' first
   | (with_reducible exact impl_IsValidCharge.mono _ _ _ _)
   | (with_reducible exact LeO.refl _)
   | (with_reducible exact LeO.none _)
   | (with_reducible refine LeO.ite ?_ ?_)
   | (with_reducible refine LeO.bind ?_ (fun _ => ?_))
   | exact impl_IsValidCharge.mono _ _ _ _
   | exact LeO.none _
   | refine LeO.ite ?_ ?_
   | refine LeO.bind ?_ (fun _ => ?_)
set_option maxHeartbeats 8000000 in
set_option maxRecDepth 100000 in
theorem impl_isStay.calls (k : Nat) (a0_0 : Int) (A0_1 : Option Addr) (c0_1 : Nat) (l0_1 : List (S51)) (a0_2 : Int) (a1 : Int) (a2 : Int) (r : Bool) (w : World) (hr0_1 : Kd.C k51 w A0_1 l0_1.length l0_1) (hc0_1 : l0_1.length ≤ c0_1) (h : impl_isStay.f k a0_0 l0_1 a0_2 a1 a2 = some r) :
  Calls Try.prog 46 #[.agg #[.int .i64 a0_0, .slice A0_1 l0_1.length c0_1, .int .i64 a0_2], .int .i64 a1, .int .i64 a2] w fun e w' => e = .returned (.bool r) ∧ Below w.heap.size w w':=by
 have hu38:=Try.underlying38
 have HR0_1:=Aside0.mk hr0_1
 have HC0_1:=Aside0.mk hc0_1
 clear hr0_1 hc0_1
 have HB:=Aside0.mk (Below.refl w.heap.size w)
 have H : ((impl_IsValidCharge.f k a0_0 l0_1 a0_2).bind fun t242 => (if t242 = true then ((impl_within.f a1 1 2).bind fun t243 => (if t243 = true then ((impl_within.f a2 0 400).bind fun t244 => (some t244)) else (some false))) else (some false))) = some r:=h
 clear h
 replace H:=Option.bind_eq_some_iff.mp H
 obtain ⟨t242,A40,H⟩ := H
 replace H : (if t242 = true then ((impl_within.f a1 1 2).bind fun t243 => (if t243 = true then ((impl_within.f a2 0 400).bind fun t244 => (some t244)) else (some false))) else (some false)) = some r:=H
 have A4:=Aside0.mk A40
 clear A40
 by_cases c5 : t242 = true
 ·subst c5
  have H1 : ((impl_within.f a1 1 2).bind fun t243 => (if t243 = true then ((impl_within.f a2 0 400).bind fun t244 => (some t244)) else (some false))) = some r:=by rw [if_pos rfl] at H;exact H
  clear H
  have H:=H1
  clear H1
  replace H:=Option.bind_eq_some_iff.mp H
  obtain ⟨t243,A60,H⟩ := H
  replace H : (if t243 = true then ((impl_within.f a2 0 400).bind fun t244 => (some t244)) else (some false)) = some r:=H
  have A6:=Aside0.mk A60
  clear A60
  by_cases c7 : t243 = true
  ·subst c7
   have H1 : ((impl_within.f a2 0 400).bind fun t244 => (some t244)) = some r:=by rw [if_pos rfl] at H;exact H
   clear H
   have H:=H1
   clear H1
   replace H:=Option.bind_eq_some_iff.mp H
   obtain ⟨t244,A80,H⟩ := H
   replace H : (some t244) = some r:=H
   have A8:=Aside0.mk A80
   clear A80
   obtain rfl:=Option.some.inj H
   go_enter Try.func46,Try.ntmps46
   go_wp2_with (first | ((with_reducible refine gate_dst (N:=3) rfl ?_);refine box_event ?hg (N:=3) ?hd (cs:=#[.int .i64 a0_0, .slice A0_1 l0_1.length c0_1, .int .i64 a0_2]) (t:=38) ?hr ?_;(case hd => rfl);(case hg => rfl);(case hr => (go_simp;done));intro gb241 hg w9 hbox hb;have n0_:=Aside0.mk (below_step (by exact HB.out) hb);have n1_:=Aside0.mk (hbox);have n2_:=Aside0.mk ((by rw [hg];exact (below_size (by exact HB.out)) : w.heap.size ≤ gb241));have n3_:=Aside0.mk ((by rw [hg];exact (below_size (by exact HB.out)) : w.heap.size ≤ gb241));clear HB;have HB:=n0_;have BK241:=n1_;have GW241:=n2_;have GE241:=n3_;clear n0_ n1_ n2_ n3_;clear hb hbox hg;have hcz10_0 : w9.cell? ⟨gb241,0,none⟩ = some (.int .i64 a0_0):=(blk_cell BK241.out 0).trans rfl;have hcz10_1 : w9.cell? ⟨gb241,1,none⟩ = some (.slice A0_1 l0_1.length c0_1):=(blk_cell BK241.out 1).trans rfl;have hcz10_2 : w9.cell? ⟨gb241,2,none⟩ = some (.int .i64 a0_2):=(blk_cell BK241.out 2).trans rfl;have hfz10_0:=blk_frozen BK241.out 0;have hfz10_1:=blk_frozen BK241.out 1;have hfz10_2:=blk_frozen BK241.out 2) | ((with_reducible refine gate_callee (f:=17) rfl ?_);refine goesL_ (some 8) rfl rfl Try.func17 (by kernel_rfl) rfl #[.agg #[.int .i64 a0_0, .slice A0_1 l0_1.length c0_1, .int .i64 a0_2]] rfl (by (try simp only [List.map_toArray,List.map_cons,List.map_nil]);rfl) ?_;(with_reducible refine (impl_IsValidCharge.calls k a0_0 _ _ l0_1 a0_2 true _ ?side1 ?side2 A4.out).mono ?_);(case side1 => repeat (exact (Kd.C_below HR0_1.out HB.out)));(case side2 => exact HC0_1.out);rintro e w11 ⟨rfl,hb⟩;refine ⟨_,rfl, ?_⟩;have n0_:=Aside0.mk (blk_below (g:=gb241) (o := .cells #[.int .i64 a0_0, .slice A0_1 l0_1.length c0_1, .int .i64 a0_2] 38 (0,0)) (by exact BK241.out) hb);have n1_:=Aside0.mk (below_step (by exact HB.out) hb);clear BK241;clear HB;have BK241:=n0_;have HB:=n1_;clear n0_ n1_;(try clear hb)) | (go_at_call 37;(with_reducible refine (impl_within.calls a1 1 2 true _ A6.out).mono ?_);rintro e w' ⟨rfl,⟨nd,rfl⟩⟩) | (go_at_call 37;(with_reducible refine (impl_within.calls a2 0 400 t244 _ A8.out).mono ?_);rintro e w' ⟨rfl,⟨nd,rfl⟩⟩))
   go_ret
   exact ⟨by rfl,by repeat ((with_reducible first | exact HB.out | apply pw_below_drewN))⟩
  ·replace c7:=Bool.eq_false_iff.mpr c7
   subst c7
   have H1 : (some false) = some r:=by rw [if_neg (show ¬ (false = true) by decide)] at H;exact H
   clear H
   have H:=H1
   clear H1
   obtain rfl:=Option.some.inj H
   go_enter Try.func46,Try.ntmps46
   go_wp2_with (first | ((with_reducible refine gate_dst (N:=3) rfl ?_);refine box_event ?hg (N:=3) ?hd (cs:=#[.int .i64 a0_0, .slice A0_1 l0_1.length c0_1, .int .i64 a0_2]) (t:=38) ?hr ?_;(case hd => rfl);(case hg => rfl);(case hr => (go_simp;done));intro gb241 hg w12 hbox hb;have n0_:=Aside0.mk (below_step (by exact HB.out) hb);have n1_:=Aside0.mk (hbox);have n2_:=Aside0.mk ((by rw [hg];exact (below_size (by exact HB.out)) : w.heap.size ≤ gb241));have n3_:=Aside0.mk ((by rw [hg];exact (below_size (by exact HB.out)) : w.heap.size ≤ gb241));clear HB;have HB:=n0_;have BK241:=n1_;have GW241:=n2_;have GE241:=n3_;clear n0_ n1_ n2_ n3_;clear hb hbox hg;have hcz13_0 : w12.cell? ⟨gb241,0,none⟩ = some (.int .i64 a0_0):=(blk_cell BK241.out 0).trans rfl;have hcz13_1 : w12.cell? ⟨gb241,1,none⟩ = some (.slice A0_1 l0_1.length c0_1):=(blk_cell BK241.out 1).trans rfl;have hcz13_2 : w12.cell? ⟨gb241,2,none⟩ = some (.int .i64 a0_2):=(blk_cell BK241.out 2).trans rfl;have hfz13_0:=blk_frozen BK241.out 0;have hfz13_1:=blk_frozen BK241.out 1;have hfz13_2:=blk_frozen BK241.out 2) | ((with_reducible refine gate_callee (f:=17) rfl ?_);refine goesL_ (some 8) rfl rfl Try.func17 (by kernel_rfl) rfl #[.agg #[.int .i64 a0_0, .slice A0_1 l0_1.length c0_1, .int .i64 a0_2]] rfl (by (try simp only [List.map_toArray,List.map_cons,List.map_nil]);rfl) ?_;(with_reducible refine (impl_IsValidCharge.calls k a0_0 _ _ l0_1 a0_2 true _ ?side1 ?side2 A4.out).mono ?_);(case side1 => repeat (exact (Kd.C_below HR0_1.out HB.out)));(case side2 => exact HC0_1.out);rintro e w14 ⟨rfl,hb⟩;refine ⟨_,rfl, ?_⟩;have n0_:=Aside0.mk (blk_below (g:=gb241) (o := .cells #[.int .i64 a0_0, .slice A0_1 l0_1.length c0_1, .int .i64 a0_2] 38 (0,0)) (by exact BK241.out) hb);have n1_:=Aside0.mk (below_step (by exact HB.out) hb);clear BK241;clear HB;have BK241:=n0_;have HB:=n1_;clear n0_ n1_;(try clear hb)) | (go_at_call 37;(with_reducible refine (impl_within.calls a1 1 2 false _ A6.out).mono ?_);rintro e w' ⟨rfl,⟨nd,rfl⟩⟩))
   go_ret
   exact ⟨by rfl,by repeat ((with_reducible first | exact HB.out | apply pw_below_drewN))⟩
 ·replace c5:=Bool.eq_false_iff.mpr c5
  subst c5
  have H1 : (some false) = some r:=by rw [if_neg (show ¬ (false = true) by decide)] at H;exact H
  clear H
  have H:=H1
  clear H1
  obtain rfl:=Option.some.inj H
  go_enter Try.func46,Try.ntmps46
  go_wp2_with (first | ((with_reducible refine gate_dst (N:=3) rfl ?_);refine box_event ?hg (N:=3) ?hd (cs:=#[.int .i64 a0_0, .slice A0_1 l0_1.length c0_1, .int .i64 a0_2]) (t:=38) ?hr ?_;(case hd => rfl);(case hg => rfl);(case hr => (go_simp;done));intro gb241 hg w15 hbox hb;have n0_:=Aside0.mk (below_step (by exact HB.out) hb);have n1_:=Aside0.mk (hbox);have n2_:=Aside0.mk ((by rw [hg];exact (below_size (by exact HB.out)) : w.heap.size ≤ gb241));have n3_:=Aside0.mk ((by rw [hg];exact (below_size (by exact HB.out)) : w.heap.size ≤ gb241));clear HB;have HB:=n0_;have BK241:=n1_;have GW241:=n2_;have GE241:=n3_;clear n0_ n1_ n2_ n3_;clear hb hbox hg;have hcz16_0 : w15.cell? ⟨gb241,0,none⟩ = some (.int .i64 a0_0):=(blk_cell BK241.out 0).trans rfl;have hcz16_1 : w15.cell? ⟨gb241,1,none⟩ = some (.slice A0_1 l0_1.length c0_1):=(blk_cell BK241.out 1).trans rfl;have hcz16_2 : w15.cell? ⟨gb241,2,none⟩ = some (.int .i64 a0_2):=(blk_cell BK241.out 2).trans rfl;have hfz16_0:=blk_frozen BK241.out 0;have hfz16_1:=blk_frozen BK241.out 1;have hfz16_2:=blk_frozen BK241.out 2) | ((with_reducible refine gate_callee (f:=17) rfl ?_);refine goesL_ (some 8) rfl rfl Try.func17 (by kernel_rfl) rfl #[.agg #[.int .i64 a0_0, .slice A0_1 l0_1.length c0_1, .int .i64 a0_2]] rfl (by (try simp only [List.map_toArray,List.map_cons,List.map_nil]);rfl) ?_;(with_reducible refine (impl_IsValidCharge.calls k a0_0 _ _ l0_1 a0_2 false _ ?side1 ?side2 A4.out).mono ?_);(case side1 => repeat (exact (Kd.C_below HR0_1.out HB.out)));(case side2 => exact HC0_1.out);rintro e w17 ⟨rfl,hb⟩;refine ⟨_,rfl, ?_⟩;have n0_:=Aside0.mk (blk_below (g:=gb241) (o := .cells #[.int .i64 a0_0, .slice A0_1 l0_1.length c0_1, .int .i64 a0_2] 38 (0,0)) (by exact BK241.out) hb);have n1_:=Aside0.mk (below_step (by exact HB.out) hb);clear BK241;clear HB;have BK241:=n0_;have HB:=n1_;clear n0_ n1_;(try clear hb)))
  go_ret
  exact ⟨by rfl,by exact HB.out⟩

end Go.Proofs.Ytafdafmoiocjgaa.PFnCharges
