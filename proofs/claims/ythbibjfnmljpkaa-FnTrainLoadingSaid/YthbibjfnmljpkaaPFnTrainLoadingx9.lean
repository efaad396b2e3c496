-- Written by a program of this session, over the kit's print (wip/xprint.py)
import Derived.Test.YthbibjfnmljpkaaPFnTrainLoadingx0
import Derived.Test.YthbibjfnmljpkaaPFnTrainLoadingx2
import Derived.Test.YthbibjfnmljpkaaPFnTrainLoadingx3
import Derived.Test.YthbibjfnmljpkaaPFnTrainLoadingx4
import Derived.Test.YthbibjfnmljpkaaPFnTrainLoadingx5
import Derived.Test.YthbibjfnmljpkaaPFnTrainLoadingx7
import Derived.Test.YthbibjfnmljpkaaPFnTrainLoadingx8
namespace Go.Proofs.Ythbibjfnmljpkaa.PFnTrainLoading
open Go.RowKit Go.Proofs.YthbibjfnmljpkaaW.PrintWords Go.Proofs.YthbibjfnmljpkaaW.PrintLast Go.Proofs.YthbibjfnmljpkaaW.PrintMore
attribute [local go_sem] max2_int min2_int max_two min_two max_three min_three max_four min_four   -- for this text's walks alone
set_option linter.unusedVariables false
set_option linter.unusedSimpArgs false

/-! ### spec_l1Cur_containers: function 44 -/
theorem IsS73.grownX9 {w0 W : World} {g : Nat} {f0 : List Int} {f1 : Int} {f2 : Int} {W1 : World} {row : Option Nat} {W0 : World} (h0 : IsS73 w0 W0 g f0 f1 f2) (h : IsS73 w0 W g f0 f1 f2) (hw : W.grownBy W1 row) (hne : some g ≠ row) : IsS73 w0 W1 g f0 f1 f2:=IsS73.grown h hw hne
mutual
def spec_l1Cur_containers.l0 : Nat → List (S64) → Int → List Int → Int → Int → Option ((List (S64)) × Int × Int)
 | 0,_,_,_,_,_ => none
 | k + 1,x3,x4,x1000,x1001,x1002 => if x4 > 0 then ((spec_l1Cur_container.f k x1000 x1001 x1002).bind fun bt387 => ((spec_l2Find.f k x3 bt387.1).bind fun t395 => (if t395 < 0 then (if x3.length < 2932031007402 then (spec_l1Cur_containers.l0 k (x3 ++ [(⟨bt387.1,bt387.2.1,bt387.2.2.1,bt387.2.2.2.1,bt387.2.2.2.2.1⟩ : S64)]) (wrap64 (x4 - 1)) x1000 bt387.2.2.2.2.2.1 bt387.2.2.2.2.2.2) else (none)) else (spec_l1Cur_containers.l0 k x3 (wrap64 (x4 - 1)) x1000 bt387.2.2.2.2.2.1 bt387.2.2.2.2.2.2)))) else ((spec_l1Cur_pick.f x1000 x1001 x1002 20).bind fun bt399 => (if bt399.1 = 0 then ((spec_l1Cur_anyContainer.f k x1000 bt399.2.1 bt399.2.2).bind fun bt402 => (if x3.length < 2932031007402 then (some ((x3 ++ [(⟨bt402.1,bt402.2.1,bt402.2.2.1,bt402.2.2.2.1,bt402.2.2.2.2.1⟩ : S64)]),bt402.2.2.2.2.2.1,bt402.2.2.2.2.2.2)) else (none))) else (if bt399.1 = 1 then (if (x3.length : Int) > 0 then ((spec_l1Cur_pick.f x1000 bt399.2.1 bt399.2.2 (x3.length : Int)).bind fun bt412 => (if 0 ≤ bt412.1 then (if bt412.1 < (x3.length : Int) then (if x3.length < 2932031007402 then (some ((x3 ++ [(⟨(rd_T64 x3 bt412.1).f0,(rd_T64 x3 bt412.1).f1,(rd_T64 x3 bt412.1).f2,(rd_T64 x3 bt412.1).f3,(rd_T64 x3 bt412.1).f4⟩ : S64)]),bt412.2.1,bt412.2.2)) else (none)) else (none)) else (none))) else (some (x3,bt399.2.1,bt399.2.2))) else (if bt399.1 = 2 then (spec_l1Cur_containers.l1 k x3 0 x1000 bt399.2.1 bt399.2.2) else (some (x3,bt399.2.1,bt399.2.2))))))
def spec_l1Cur_containers.l1 : Nat → List (S64) → Int → List Int → Int → Int → Option ((List (S64)) × Int × Int)
 | 0,_,_,_,_,_ => none
 | k + 1,x3,x6,x1000,x1001,x1002 => (spec_l1Cur_pick.f x1000 x1001 x1002 2).bind fun bt419 => (if (x3.length : Int) < (wrap64 (12 + bt419.1)) then (if x6 < 14 then ((spec_l2Number.f k (⟨#[77,65,88]⟩ : ByteArray) x6).bind fun t422 => (if x3.length < 2932031007402 then (spec_l1Cur_containers.l1 k (x3 ++ [(⟨t422,1,wrap64 (100 + x6),1,wrap64 (1 + (Int.tmod x6 9))⟩ : S64)]) (wrap64 (x6 + 1)) x1000 bt419.2.1 bt419.2.2) else (none))) else (some (x3,bt419.2.1,bt419.2.2))) else (some (x3,bt419.2.1,bt419.2.2)))
end
def spec_l1Cur_containers.f (k : Nat) (s0_0 : List Int) (s0_1 : Int) (s0_2 : Int) : Option ((List (S64)) × Int × Int):=(spec_l1Cur_pick.f s0_0 s0_1 s0_2 8).bind fun bt384 => (spec_l1Cur_containers.l0 k (([] : List (S64))) bt384.1 s0_0 bt384.2.1 bt384.2.2)
theorem spec_l1Cur_containers.mono_l : ∀ k,(∀ y0 y1 y2 y3 y4,LeO (spec_l1Cur_containers.l0 k y0 y1 y2 y3 y4) (spec_l1Cur_containers.l0 (k + 1) y0 y1 y2 y3 y4)) ∧ (∀ y0 y1 y2 y3 y4,LeO (spec_l1Cur_containers.l1 k y0 y1 y2 y3 y4) (spec_l1Cur_containers.l1 (k + 1) y0 y1 y2 y3 y4))
 | 0 => ⟨fun _ _ _ _ _ r h => by simp [spec_l1Cur_containers.l0] at h,fun _ _ _ _ _ r h => by simp [spec_l1Cur_containers.l1] at h⟩
 | k + 1 => by
  obtain ⟨ih0,ih1⟩ := spec_l1Cur_containers.mono_l k;refine ⟨?_, ?_⟩
  ·intro y0 y1 y2 y3 y4
   unfold spec_l1Cur_containers.l0
   repeat' first
   | (with_reducible exact ih0 _ _ _ _ _)
   | (with_reducible exact ih1 _ _ _ _ _)
   | (with_reducible exact spec_l1Cur_anyContainer.mono _ _ _ _)
   | (with_reducible exact spec_l1Cur_container.mono _ _ _ _)
   | (with_reducible exact spec_l2Find.mono _ _ _)
   | (with_reducible exact spec_l2Number.mono _ _ _)
   | (with_reducible exact LeO.refl _)
   | (with_reducible exact LeO.none _)
   | (with_reducible refine LeO.ite ?_ ?_)
   | (with_reducible refine LeO.bind ?_ (fun _ => ?_))
   | exact ih0 _ _ _ _ _
   | exact ih1 _ _ _ _ _
   | exact spec_l1Cur_anyContainer.mono _ _ _ _
   | exact spec_l1Cur_container.mono _ _ _ _
   | exact spec_l2Find.mono _ _ _
   | exact spec_l2Number.mono _ _ _
   | exact LeO.none _
   | refine LeO.ite ?_ ?_
   | refine LeO.bind ?_ (fun _ => ?_)
  ·intro y0 y1 y2 y3 y4
   unfold spec_l1Cur_containers.l1
   repeat' first
   | (with_reducible exact ih0 _ _ _ _ _)
   | (with_reducible exact ih1 _ _ _ _ _)
   | (with_reducible exact spec_l1Cur_anyContainer.mono _ _ _ _)
   | (with_reducible exact spec_l1Cur_container.mono _ _ _ _)
   | (with_reducible exact spec_l2Find.mono _ _ _)
   | (with_reducible exact spec_l2Number.mono _ _ _)
   | (with_reducible exact LeO.refl _)
   | (with_reducible exact LeO.none _)
   | (with_reducible refine LeO.ite ?_ ?_)
   | (with_reducible refine LeO.bind ?_ (fun _ => ?_))
   | exact ih0 _ _ _ _ _
   | exact ih1 _ _ _ _ _
   | exact spec_l1Cur_anyContainer.mono _ _ _ _
   | exact spec_l1Cur_container.mono _ _ _ _
   | exact spec_l2Find.mono _ _ _
   | exact spec_l2Number.mono _ _ _
   | exact LeO.none _
   | refine LeO.ite ?_ ?_
   | refine LeO.bind ?_ (fun _ => ?_)
theorem spec_l1Cur_containers.mono : ∀ a0 a1 a2 k,LeO (spec_l1Cur_containers.f k a0 a1 a2) (spec_l1Cur_containers.f (k + 1) a0 a1 a2):=by
 intro a0 a1 a2 k;obtain ⟨ih0,ih1⟩ := spec_l1Cur_containers.mono_l k
 unfold spec_l1Cur_containers.f
 repeat' first
   | (with_reducible exact ih0 _ _ _ _ _)
   | (with_reducible exact ih1 _ _ _ _ _)
   | (with_reducible exact spec_l1Cur_anyContainer.mono _ _ _ _)
   | (with_reducible exact spec_l1Cur_container.mono _ _ _ _)
   | (with_reducible exact spec_l2Find.mono _ _ _)
   | (with_reducible exact spec_l2Number.mono _ _ _)
   | (with_reducible exact LeO.refl _)
   | (with_reducible exact LeO.none _)
   | (with_reducible refine LeO.ite ?_ ?_)
   | (with_reducible refine LeO.bind ?_ (fun _ => ?_))
   | exact ih0 _ _ _ _ _
   | exact ih1 _ _ _ _ _
   | exact spec_l1Cur_anyContainer.mono _ _ _ _
   | exact spec_l1Cur_container.mono _ _ _ _
   | exact spec_l2Find.mono _ _ _
   | exact spec_l2Number.mono _ _ _
   | exact LeO.none _
   | refine LeO.ite ?_ ?_
   | refine LeO.bind ?_ (fun _ => ?_)
set_option maxHeartbeats 8000000 in
set_option maxRecDepth 100000 in
theorem spec_l1Cur_containers.calls (k : Nat) (g : Nat) (s0_0 : List Int) (s0_1 : Int) (s0_2 : Int) (r1 : List (S64)) (r2 : Int) (r3 : Int) (w0 w : World) (hI : IsS73 w0 w g s0_0 s0_1 s0_2) (hB : Below w0.heap.size w0 w) (h : spec_l1Cur_containers.f k s0_0 s0_1 s0_2 = some (r1,r2,r3)) :
  Calls Try.prog 44 #[.pointer (some ⟨g,0,none⟩)] w fun e w' => ∃ v0_ : Value,e = .returned (v0_) ∧ Kd.R k64 64 w' w.heap.size (fun _ => True) v0_ r1 ∧ IsS73 w0 w' g s0_0 r2 r3 ∧ Below w0.heap.size w0 w' ∧ KeepBut w w' g none:=by
 have hu64:=Try.underlying64;have HI0:=am_ hI;have HK:=am_ (KeepBut.refl w g none);have HL:=am_ hB.size;clear hI;have HW0:=am_ hB.size;have HB:=am_ hB;clear hB;have H : ((spec_l1Cur_pick.f s0_0 s0_1 s0_2 8).bind fun bt384 => (spec_l1Cur_containers.l0 k (([] : List (S64))) bt384.1 s0_0 bt384.2.1 bt384.2.2)) = some (r1,r2,r3):=h;clear h;obtain ⟨y381,hy381⟩ : ∃ y_ : List (S64),y_ = (([] : List (S64))):=⟨_,rfl⟩
 replace H : ((spec_l1Cur_pick.f s0_0 s0_1 s0_2 8).bind fun bt384 => (spec_l1Cur_containers.l0 k y381 bt384.1 s0_0 bt384.2.1 bt384.2.2)) = some (r1,r2,r3):=by (rw [hy381];with_reducible exact H)
 have Ny381:=am_ hy381;clear hy381;replace H:=Option.bind_eq_some_iff.mp H;obtain ⟨⟨t384,t385,t386⟩,A20,H⟩ := H;replace H : (spec_l1Cur_containers.l0 k y381 t384 s0_0 t385 t386) = some (r1,r2,r3):=H;have A2:=am_ A20;clear A20;have H':=am_ H;clear H
 go_enter Try.func44,Try.ntmps44
 go_wp2_with (first | ((with_reducible refine gate_dst (N:=7) rfl ?_);refine Kd.R_lit k64 _ 64 ?hg (N:=7) ?hd (xs:=([] : List (S64))) (inner := []) (ok:=fun _ => True) (okp:=fun _ => True) ?hr ?hp (fun _ hk => hk) trivial (Below.refl _ _) (Nat.le_refl _) (by simp) ?_;(case hd => rfl);(case hg => rfl);(case hr => (go_simp;done));(case hp => exact (Reps.none _ _));intro v382 w3 ho4 hb hg_ hnew_;clear hg_ hnew_;(rw [← Ny381.out] at ho4);have n0_:=am_ (Kd.R_lower ho4 (keep_size (w:=w) (g:=g) (row:=none) (by exact HK.out)));have n1_:=am_ (IsS73.below (by exact HI0.out) hb);have n2_:=am_ (KeepBut.trans (by exact HK.out) (KeepBut.of_below hb g none) (.inl rfl));have n3_:=am_ (below_step (by exact HB.out) hb);clear HI0;clear HK;clear HB;have HO383:=n0_;have HI0:=n1_;have HK:=n2_;have HB:=n3_;clear n0_ n1_ n2_ n3_;clear hb ho4) | ((with_reducible refine gate_callee (f:=43) rfl ?_);refine goesL_ (some 9) rfl rfl Try.func43 (by kernel_rfl) rfl #[.pointer (some ⟨g,0,none⟩), .int .i64 8] rfl (by (try simp only [List.map_toArray,List.map_cons,List.map_nil]);rfl) ?_;(with_reducible refine (spec_l1Cur_pick.calls g s0_0 s0_1 s0_2 8 t384 t385 t386 w0 _ ?side1 ?side2 A2.out).mono ?_);(case side1 => exact HI0.out);(case side2 => exact HB.out);rintro e w5 ⟨rfl,hi,hb,hk⟩;refine ⟨_,rfl, ?_⟩;have n0_:=am_ (Kd.R_mono (Kd.R_keep (IsS73.apart (show IsS73 w0 _ g s0_0 s0_1 s0_2 from by exact HI0.out) (by exact HO383.out) (by decide)) hk (fun _ h => h.2)) (fun _ h => h.1));have n1_:=am_ (KeepBut.trans (by exact HK.out) hk (.inl rfl));have n2_:=am_ hb;have n3_:=am_ hi;clear HO383;clear HK;clear HB;clear HI0;have HO383:=n0_;have HK:=n1_;have HB:=n2_;have HI0:=n3_;clear n0_ n1_ n2_ n3_;(try clear hb);(try clear hk);(try clear hi)))
 go_loopg [3,4] k (fun kq v3 v4 w' => ∃ (x3_1 : List (S64)) (x4_1 : Int) (x1001_1 : Int) (x1002_1 : Int),v4 = .int .i64 x4_1 ∧ Aside0 (spec_l1Cur_containers.l0 kq x3_1 x4_1 s0_0 x1001_1 x1002_1 = some (r1,r2,r3)) ∧ Aside0 (kq ≤ k) ∧ Aside0 (Kd.R k64 64 w' w.heap.size (fun _ => True) v3 x3_1) ∧ Aside0 (IsS73 w0 w' g s0_0 x1001_1 x1002_1) ∧ Aside0 (KeepBut w w' g none) ∧ Aside0 (Below w0.heap.size w0 w'))
 case atStart => exact ⟨(y381),(t384),(t385),(t386),(by rfl),H',⟨Nat.le_refl _⟩,⟨by exact HO383.out⟩,⟨by exact HI0.out⟩,⟨by exact HK.out⟩,⟨by exact HB.out⟩⟩
 case round =>
  clear H';(try clear p2);(try clear c4);obtain ⟨x3_1,x4_1,x1001_1,x1002_1,rfl,HA,HK1,HO_3,HI0,HK,HB⟩ := hrel
  cases gk with
  | zero => exact absurd HA.out (by simp [spec_l1Cur_containers.l0])
  | succ k1 =>
   have H:=HA.out;clear HA;simp only [spec_l1Cur_containers.l0] at H
   by_cases c6 : x4_1 > 0
   ·rw [if_pos c6] at H;have c6b0 : decide (0 < x4_1) = true:=decide_eq_true c6;clear c6;replace H:=Option.bind_eq_some_iff.mp H;obtain ⟨⟨t387,t388,t389,t390,t391,t392,t393⟩,A70,H⟩ := H;replace H : ((spec_l2Find.f k1 x3_1 t387).bind fun t395 => (if t395 < 0 then (if x3_1.length < 2932031007402 then (spec_l1Cur_containers.l0 k1 (x3_1 ++ [(⟨t387,t388,t389,t390,t391⟩ : S64)]) (wrap64 (x4_1 - 1)) s0_0 t392 t393) else (none)) else (spec_l1Cur_containers.l0 k1 x3_1 (wrap64 (x4_1 - 1)) s0_0 t392 t393))) = some (r1,r2,r3):=H;have A7:=am_ A70;clear A70;replace H:=Option.bind_eq_some_iff.mp H;obtain ⟨t395,A80,H⟩ := H;replace H : (if t395 < 0 then (if x3_1.length < 2932031007402 then (spec_l1Cur_containers.l0 k1 (x3_1 ++ [(⟨t387,t388,t389,t390,t391⟩ : S64)]) (wrap64 (x4_1 - 1)) s0_0 t392 t393) else (none)) else (spec_l1Cur_containers.l0 k1 x3_1 (wrap64 (x4_1 - 1)) s0_0 t392 t393)) = some (r1,r2,r3):=H;have A8:=am_ A80;clear A80
    by_cases c9 : t395 < 0
    ·rw [if_pos c9] at H;have c9b0 : decide (t395 < 0) = true:=decide_eq_true c9;clear c9
     by_cases c10 : x3_1.length < 2932031007402
     ·rw [if_pos c10] at H;have LMc10:=am_ c10;clear c10;obtain ⟨y396,hy396⟩ : ∃ y_ : List (S64),y_ = (x3_1 ++ [(⟨t387,t388,t389,t390,t391⟩ : S64)]):=⟨_,rfl⟩
      replace H : (spec_l1Cur_containers.l0 k1 y396 (wrap64 (x4_1 - 1)) s0_0 t392 t393) = some (r1,r2,r3):=by (rw [hy396];with_reducible exact H)
      have Ny396:=am_ hy396;clear hy396;have H':=am_ H;clear H
      go_wp2_with (first | ((with_reducible refine gate_callee (f:=74) rfl ?_);refine goesL_ (some 15) rfl rfl Try.func74 (by kernel_rfl) rfl #[.pointer (some ⟨g,0,none⟩)] rfl (by (try simp only [List.map_toArray,List.map_cons,List.map_nil]);rfl) ?_;(with_reducible refine (spec_l1Cur_container.calls k1 g s0_0 x1001_1 x1002_1 t387 t388 t389 t390 t391 t392 t393 w0 _ ?side1 ?side2 A7.out).mono ?_);(case side1 => exact HI0.out);(case side2 => exact HB.out);rintro e w11 ⟨rfl,hi,hb,hk⟩;refine ⟨_,rfl, ?_⟩;have n0_:=am_ (Kd.R_mono (Kd.R_keep (IsS73.apart (show IsS73 w0 _ g s0_0 x1001_1 x1002_1 from by exact HI0.out) (by exact HO_3.out) (by decide)) hk (fun _ h => h.2)) (fun _ h => h.1));have n1_:=am_ (KeepBut.trans (by exact HK.out) hk (.inl rfl));have n2_:=am_ hb;have n3_:=am_ hi;clear HO_3;clear HK;clear HB;clear HI0;have HO_3:=n0_;have HK:=n1_;have HB:=n2_;have HI0:=n3_;clear n0_ n1_ n2_ n3_;(try clear hb);(try clear hk);(try clear hi)) | ((with_reducible refine gate_dst (N:=5) rfl ?_);refine box_event ?hg (N:=5) ?hd (cs:=#[.string (⟨#[]⟩ : ByteArray), .int .i64 0, .int .i64 0, .int .i64 0, .int .i64 0]) (t:=64) ?hr ?_;(case hd => rfl);(case hg => rfl);(case hr => (go_simp;done));intro gb394 hg w12 hbox hb;have n0_:=am_ (Kd.R_below (Kd.R_elderB (by exact HO_3.out) gb394 (Nat.le_of_eq hg.symm)) hb);have n1_:=am_ (IsS73.below (by exact HI0.out) hb);have n2_:=am_ (KeepBut.trans (by exact HK.out) (KeepBut.of_below hb g none) (.inl rfl));have n3_:=am_ (below_step (by exact HB.out) hb);have n4_:=am_ hbox;have n5_:=am_ ((by rw [hg];exact (keep_size (w:=w) (g:=g) (row:=none) (by exact HK.out)) : w.heap.size ≤ gb394));have n6_:=am_ ((Nat.le_trans HW0.out (by rw [hg];exact (keep_size (w:=w) (g:=g) (row:=none) (by exact HK.out)) : w.heap.size ≤ gb394) : w0.heap.size ≤ gb394));have n7_:=am_ ((by rw [hg];exact Nat.ne_of_lt (IsS73.lt (show IsS73 w0 _ g s0_0 t392 t393 from by exact HI0.out)) : g ≠ gb394));have n8_:=am_ ((by rw [hg];exact Nat.ne_of_gt (IsS73.lt (show IsS73 w0 _ g s0_0 t392 t393 from by exact HI0.out)) : gb394 ≠ g));clear HO_3;clear HI0;clear HK;clear HB;have HO_3:=n0_;have HI0:=n1_;have HK:=n2_;have HB:=n3_;have BK394:=n4_;have GW394:=n5_;have GE394:=n6_;have NB0_394:=n7_;have NB394_0:=n8_;clear n0_ n1_ n2_ n3_ n4_ n5_ n6_ n7_ n8_;clear hb hbox hg;have hnb13:=NB394_0.out;have hnc13:=NB0_394.out;have hcz14_0 : w12.cell? ⟨gb394,0,none⟩ = some (.string (⟨#[]⟩ : ByteArray)):=(blk_cell BK394.out 0).trans rfl;have hcz14_1 : w12.cell? ⟨gb394,1,none⟩ = some (.int .i64 0):=(blk_cell BK394.out 1).trans rfl;have hcz14_2 : w12.cell? ⟨gb394,2,none⟩ = some (.int .i64 0):=(blk_cell BK394.out 2).trans rfl;have hcz14_3 : w12.cell? ⟨gb394,3,none⟩ = some (.int .i64 0):=(blk_cell BK394.out 3).trans rfl;have hcz14_4 : w12.cell? ⟨gb394,4,none⟩ = some (.int .i64 0):=(blk_cell BK394.out 4).trans rfl;have hfz14_0:=blk_frozen BK394.out 0;have hfz14_1:=blk_frozen BK394.out 1;have hfz14_2:=blk_frozen BK394.out 2;have hfz14_3:=blk_frozen BK394.out 3;have hfz14_4:=blk_frozen BK394.out 4;obtain ⟨Ao15,co15,eo15⟩ := Kd.R_slice HO_3.out;subst eo15) | ((with_reducible refine gate_callee (f:=65) rfl ?_);refine goesL_ (some 19) rfl rfl Try.func65 (by kernel_rfl) rfl #[.slice Ao15 x3_1.length co15, .string t387] rfl (by (try simp only [List.map_toArray,List.map_cons,List.map_nil]);rfl) ?_;(with_reducible refine (spec_l2Find.calls k1 _ _ x3_1 t387 t395 _ ?side1 ?side2 A8.out).mono ?_);(case side1 => refine (Kd.R_reads' (e:=64) (base:=w.heap.size) (ok:=fun k_ => (True ∧ k_ ≠ gb394)) (n:=x3_1.length) (c:=co15) ?_).2.2;exact (by exact (Kd.R_mono (Kd.R_far (p:=⟨gb394,4,none⟩) (Kd.R_far (p:=⟨gb394,3,none⟩) (Kd.R_far (p:=⟨gb394,2,none⟩) (Kd.R_far (p:=⟨gb394,1,none⟩) (Kd.R_far (p:=⟨gb394,0,none⟩) (Kd.R_mono HO_3.out (fun k_ hk => (⟨hk,hk.2⟩ : _ ∧ k_ ≠ gb394))) (fun _ hk => hk.2) (.string t387)) (fun _ hk => hk.2) (.int .i64 t388)) (fun _ hk => hk.2) (.int .i64 t389)) (fun _ hk => hk.2) (.int .i64 t390)) (fun _ hk => hk.2) (.int .i64 t391)) (fun _ h_ => h_.1))));(case side2 => exact (Kd.R_reads' HO_3.out).2.1);rintro e w' ⟨rfl,⟨nd,rfl⟩⟩;refine ⟨_,rfl, ?_⟩) | ((with_reducible refine gate_builtin (b := .append) (xs:=#[.tmp 21, .tmp 23]) rfl ?_);at_builtin;refine Kd.R_append k64 w.heap.size rfl (.tmp 21) (.tmp 23) 30 64 (.agg #[(.string ⟨#[]⟩),(.int .i64 0),(.int .i64 0),(.int .i64 0),(.int .i64 0)]) 48 rfl Try.underlying30 info64 rfl (by decide) (by omega) (.slice Ao15 x3_1.length co15) x3_1 (⟨t387,t388,t389,t390,t391⟩ : S64) [.string t387, .int .i64 t388, .int .i64 t389, .int .i64 t390, .int .i64 t391] (fun k_ => k_ ≠ gb394) (fun _ => False) rfl (by (go_simp;done)) ?aP (fun _ hk => hk.elim) ?aF ?aO (Below.refl _ _) ?aS ?aL ?_;(case aP => exact k64_mkM _ _ _ (⟨t387,t388,t389,t390,t391⟩ : S64));(case aF => exact (fun k_ hk => Kd.freshB (g:=gb394) (o := .cells #[.string t387, .int .i64 t388, .int .i64 t389, .int .i64 t390, .int .i64 t391] 64 (0,0)) (by (with_reducible repeat (refine blk_drewN ?_ _));refine blk_put (cs:=#[.string t387, .int .i64 t388, .int .i64 t389, .int .i64 t390, .int .i64 0]) ?_ 4 _ rfl;refine blk_put (cs:=#[.string t387, .int .i64 t388, .int .i64 t389, .int .i64 0, .int .i64 0]) ?_ 3 _ rfl;refine blk_put (cs:=#[.string t387, .int .i64 t388, .int .i64 0, .int .i64 0, .int .i64 0]) ?_ 2 _ rfl;refine blk_put (cs:=#[.string t387, .int .i64 0, .int .i64 0, .int .i64 0, .int .i64 0]) ?_ 1 _ rfl;refine blk_put (cs:=#[.string (⟨#[]⟩ : ByteArray), .int .i64 0, .int .i64 0, .int .i64 0, .int .i64 0]) ?_ 0 _ rfl;exact BK394.out) k_ hk));(case aO => exact (by (with_reducible repeat (apply Kd.R_drewN));exact Kd.R_mono (Kd.R_far (p:=⟨gb394,4,none⟩) (Kd.R_far (p:=⟨gb394,3,none⟩) (Kd.R_far (p:=⟨gb394,2,none⟩) (Kd.R_far (p:=⟨gb394,1,none⟩) (Kd.R_far (p:=⟨gb394,0,none⟩) (Kd.R_mono HO_3.out (fun k_ hk => (⟨hk,hk.2⟩ : _ ∧ k_ ≠ gb394))) (fun _ hk => hk.2) (.string t387)) (fun _ hk => hk.2) (.int .i64 t388)) (fun _ hk => hk.2) (.int .i64 t389)) (fun _ hk => hk.2) (.int .i64 t390)) (fun _ hk => hk.2) (.int .i64 t391)) (fun _ hk => hk.1.2)));(case aS => exact (keep_size (w:=w) (g:=g) (row:=none) (by repeat ((with_reducible first | exact HK.out | apply keep_drewN | refine keep_far ?_ GW394.out _)))));(case aL => have:=LMc10.out;omega);intro v397 w16 ho hb hg hat;rw [← Ny396.out] at ho;have n0_:=am_ (IsS73.grownX9 HI0.out (by repeat ((with_reducible first | exact HI0.out | apply IsS73.drewN | refine IsS73.far ?_ NB0_394.out _))) hg (IsS73.own_ne HI0.out HO_3.out (by decide)));have n1_:=am_ (blk_grown (g:=gb394) (o := .cells #[.string t387, .int .i64 t388, .int .i64 t389, .int .i64 t390, .int .i64 t391] 64 (0,0)) (by (with_reducible repeat (refine blk_drewN ?_ _));refine blk_put (cs:=#[.string t387, .int .i64 t388, .int .i64 t389, .int .i64 t390, .int .i64 0]) ?_ 4 _ rfl;refine blk_put (cs:=#[.string t387, .int .i64 t388, .int .i64 t389, .int .i64 0, .int .i64 0]) ?_ 3 _ rfl;refine blk_put (cs:=#[.string t387, .int .i64 t388, .int .i64 0, .int .i64 0, .int .i64 0]) ?_ 2 _ rfl;refine blk_put (cs:=#[.string t387, .int .i64 0, .int .i64 0, .int .i64 0, .int .i64 0]) ?_ 1 _ rfl;refine blk_put (cs:=#[.string (⟨#[]⟩ : ByteArray), .int .i64 0, .int .i64 0, .int .i64 0, .int .i64 0]) ?_ 0 _ rfl;exact BK394.out) hg (Kd.R_away HO_3.out (fun _ hk => hk.2)));have n2_:=am_ (below_weaken (by repeat ((with_reducible first | exact HB.out | apply pw_below_drewN | refine below_set ?_ GE394.out))) HL.out hb);have n3_:=am_ (KeepBut.trans (by repeat ((with_reducible first | exact HK.out | apply keep_drewN | refine keep_far ?_ GW394.out _))) (KeepBut.of_grown hg g) (Kd.R_base2 HO_3.out));have n4_:=am_ (ho);clear HI0;clear BK394;clear HB;clear HK;clear HO_3;have HI0:=n0_;have BK394:=n1_;have HB:=n2_;have HK:=n3_;have HO398:=n4_;clear n0_ n1_ n2_ n3_ n4_;clear ho hb hg hat))
      go_roundg k1
      case measure => have:=HK1.out;omega
      case rel => exact ⟨(y396),(wrap64 (x4_1 - 1)),(t392),(t393),(by rfl),H',⟨by have:=HK1.out;omega⟩,⟨by exact Kd.R_mono HO398.out (fun _ hk => trivial)⟩,⟨by exact HI0.out⟩,⟨by exact HK.out⟩,⟨by exact HB.out⟩⟩
     ·rw [if_neg c10] at H
      exact absurd H (by simp)
    ·rw [if_neg c9] at H;have c9b0 : decide (t395 < 0) = false:=decide_eq_false c9;clear c9;have H':=am_ H;clear H
     go_wp2_with (first | ((with_reducible refine gate_callee (f:=74) rfl ?_);refine goesL_ (some 15) rfl rfl Try.func74 (by kernel_rfl) rfl #[.pointer (some ⟨g,0,none⟩)] rfl (by (try simp only [List.map_toArray,List.map_cons,List.map_nil]);rfl) ?_;(with_reducible refine (spec_l1Cur_container.calls k1 g s0_0 x1001_1 x1002_1 t387 t388 t389 t390 t391 t392 t393 w0 _ ?side1 ?side2 A7.out).mono ?_);(case side1 => exact HI0.out);(case side2 => exact HB.out);rintro e w17 ⟨rfl,hi,hb,hk⟩;refine ⟨_,rfl, ?_⟩;have n0_:=am_ (Kd.R_mono (Kd.R_keep (IsS73.apart (show IsS73 w0 _ g s0_0 x1001_1 x1002_1 from by exact HI0.out) (by exact HO_3.out) (by decide)) hk (fun _ h => h.2)) (fun _ h => h.1));have n1_:=am_ (KeepBut.trans (by exact HK.out) hk (.inl rfl));have n2_:=am_ hb;have n3_:=am_ hi;clear HO_3;clear HK;clear HB;clear HI0;have HO_3:=n0_;have HK:=n1_;have HB:=n2_;have HI0:=n3_;clear n0_ n1_ n2_ n3_;(try clear hb);(try clear hk);(try clear hi)) | ((with_reducible refine gate_dst (N:=5) rfl ?_);refine box_event ?hg (N:=5) ?hd (cs:=#[.string (⟨#[]⟩ : ByteArray), .int .i64 0, .int .i64 0, .int .i64 0, .int .i64 0]) (t:=64) ?hr ?_;(case hd => rfl);(case hg => rfl);(case hr => (go_simp;done));intro gb394 hg w18 hbox hb;have n0_:=am_ (Kd.R_below (Kd.R_elderB (by exact HO_3.out) gb394 (Nat.le_of_eq hg.symm)) hb);have n1_:=am_ (IsS73.below (by exact HI0.out) hb);have n2_:=am_ (KeepBut.trans (by exact HK.out) (KeepBut.of_below hb g none) (.inl rfl));have n3_:=am_ (below_step (by exact HB.out) hb);have n4_:=am_ hbox;have n5_:=am_ ((by rw [hg];exact (keep_size (w:=w) (g:=g) (row:=none) (by exact HK.out)) : w.heap.size ≤ gb394));have n6_:=am_ ((Nat.le_trans HW0.out (by rw [hg];exact (keep_size (w:=w) (g:=g) (row:=none) (by exact HK.out)) : w.heap.size ≤ gb394) : w0.heap.size ≤ gb394));have n7_:=am_ ((by rw [hg];exact Nat.ne_of_lt (IsS73.lt (show IsS73 w0 _ g s0_0 t392 t393 from by exact HI0.out)) : g ≠ gb394));have n8_:=am_ ((by rw [hg];exact Nat.ne_of_gt (IsS73.lt (show IsS73 w0 _ g s0_0 t392 t393 from by exact HI0.out)) : gb394 ≠ g));clear HO_3;clear HI0;clear HK;clear HB;have HO_3:=n0_;have HI0:=n1_;have HK:=n2_;have HB:=n3_;have BK394:=n4_;have GW394:=n5_;have GE394:=n6_;have NB0_394:=n7_;have NB394_0:=n8_;clear n0_ n1_ n2_ n3_ n4_ n5_ n6_ n7_ n8_;clear hb hbox hg;have hnb19:=NB394_0.out;have hnc19:=NB0_394.out;have hcz20_0 : w18.cell? ⟨gb394,0,none⟩ = some (.string (⟨#[]⟩ : ByteArray)):=(blk_cell BK394.out 0).trans rfl;have hcz20_1 : w18.cell? ⟨gb394,1,none⟩ = some (.int .i64 0):=(blk_cell BK394.out 1).trans rfl;have hcz20_2 : w18.cell? ⟨gb394,2,none⟩ = some (.int .i64 0):=(blk_cell BK394.out 2).trans rfl;have hcz20_3 : w18.cell? ⟨gb394,3,none⟩ = some (.int .i64 0):=(blk_cell BK394.out 3).trans rfl;have hcz20_4 : w18.cell? ⟨gb394,4,none⟩ = some (.int .i64 0):=(blk_cell BK394.out 4).trans rfl;have hfz20_0:=blk_frozen BK394.out 0;have hfz20_1:=blk_frozen BK394.out 1;have hfz20_2:=blk_frozen BK394.out 2;have hfz20_3:=blk_frozen BK394.out 3;have hfz20_4:=blk_frozen BK394.out 4;obtain ⟨Ao21,co21,eo21⟩ := Kd.R_slice HO_3.out;subst eo21) | ((with_reducible refine gate_callee (f:=65) rfl ?_);refine goesL_ (some 19) rfl rfl Try.func65 (by kernel_rfl) rfl #[.slice Ao21 x3_1.length co21, .string t387] rfl (by (try simp only [List.map_toArray,List.map_cons,List.map_nil]);rfl) ?_;(with_reducible refine (spec_l2Find.calls k1 _ _ x3_1 t387 t395 _ ?side1 ?side2 A8.out).mono ?_);(case side1 => refine (Kd.R_reads' (e:=64) (base:=w.heap.size) (ok:=fun k_ => (True ∧ k_ ≠ gb394)) (n:=x3_1.length) (c:=co21) ?_).2.2;exact (by exact (Kd.R_mono (Kd.R_far (p:=⟨gb394,4,none⟩) (Kd.R_far (p:=⟨gb394,3,none⟩) (Kd.R_far (p:=⟨gb394,2,none⟩) (Kd.R_far (p:=⟨gb394,1,none⟩) (Kd.R_far (p:=⟨gb394,0,none⟩) (Kd.R_mono HO_3.out (fun k_ hk => (⟨hk,hk.2⟩ : _ ∧ k_ ≠ gb394))) (fun _ hk => hk.2) (.string t387)) (fun _ hk => hk.2) (.int .i64 t388)) (fun _ hk => hk.2) (.int .i64 t389)) (fun _ hk => hk.2) (.int .i64 t390)) (fun _ hk => hk.2) (.int .i64 t391)) (fun _ h_ => h_.1))));(case side2 => exact (Kd.R_reads' HO_3.out).2.1);rintro e w' ⟨rfl,⟨nd,rfl⟩⟩;refine ⟨_,rfl, ?_⟩))
     go_roundg k1
     case measure => have:=HK1.out;omega
     case rel => exact ⟨(x3_1),(wrap64 (x4_1 - 1)),(t392),(t393),(by rfl),H',⟨by have:=HK1.out;omega⟩,⟨by (with_reducible repeat (apply Kd.R_drewN));exact Kd.R_mono (Kd.R_far (p:=⟨gb394,4,none⟩) (Kd.R_far (p:=⟨gb394,3,none⟩) (Kd.R_far (p:=⟨gb394,2,none⟩) (Kd.R_far (p:=⟨gb394,1,none⟩) (Kd.R_far (p:=⟨gb394,0,none⟩) (Kd.R_mono HO_3.out (fun k_ hk => (⟨hk,hk.2⟩ : _ ∧ k_ ≠ gb394))) (fun _ hk => hk.2) (.string t387)) (fun _ hk => hk.2) (.int .i64 t388)) (fun _ hk => hk.2) (.int .i64 t389)) (fun _ hk => hk.2) (.int .i64 t390)) (fun _ hk => hk.2) (.int .i64 t391)) (fun _ hk => trivial)⟩,⟨by repeat ((with_reducible first | exact HI0.out | apply IsS73.drewN | refine IsS73.far ?_ NB0_394.out _))⟩,⟨by repeat ((with_reducible first | exact HK.out | apply keep_drewN | refine keep_far ?_ GW394.out _))⟩,⟨by repeat ((with_reducible first | exact HB.out | apply pw_below_drewN | refine below_set ?_ GE394.out))⟩⟩
   ·rw [if_neg c6] at H;have c6b0 : decide (0 < x4_1) = false:=decide_eq_false c6;clear c6;replace H:=Option.bind_eq_some_iff.mp H;obtain ⟨⟨t399,t400,t401⟩,A220,H⟩ := H;replace H : (if t399 = 0 then ((spec_l1Cur_anyContainer.f k1 s0_0 t400 t401).bind fun bt402 => (if x3_1.length < 2932031007402 then (some ((x3_1 ++ [(⟨bt402.1,bt402.2.1,bt402.2.2.1,bt402.2.2.2.1,bt402.2.2.2.2.1⟩ : S64)]),bt402.2.2.2.2.2.1,bt402.2.2.2.2.2.2)) else (none))) else (if t399 = 1 then (if (x3_1.length : Int) > 0 then ((spec_l1Cur_pick.f s0_0 t400 t401 (x3_1.length : Int)).bind fun bt412 => (if 0 ≤ bt412.1 then (if bt412.1 < (x3_1.length : Int) then (if x3_1.length < 2932031007402 then (some ((x3_1 ++ [(⟨(rd_T64 x3_1 bt412.1).f0,(rd_T64 x3_1 bt412.1).f1,(rd_T64 x3_1 bt412.1).f2,(rd_T64 x3_1 bt412.1).f3,(rd_T64 x3_1 bt412.1).f4⟩ : S64)]),bt412.2.1,bt412.2.2)) else (none)) else (none)) else (none))) else (some (x3_1,t400,t401))) else (if t399 = 2 then (spec_l1Cur_containers.l1 k1 x3_1 0 s0_0 t400 t401) else (some (x3_1,t400,t401))))) = some (r1,r2,r3):=H;have A22:=am_ A220;clear A220
    by_cases c23 : t399 = 0
    ·rw [if_pos c23] at H;have c23b0 : (t399 == 0) = true:=beq_iff_eq.mpr c23;have c23b1 : (t399 != 0) = false:=bne_eq_false_iff_eq.mpr c23;clear c23;replace H:=Option.bind_eq_some_iff.mp H;obtain ⟨⟨t402,t403,t404,t405,t406,t407,t408⟩,A240,H⟩ := H;replace H : (if x3_1.length < 2932031007402 then (some ((x3_1 ++ [(⟨t402,t403,t404,t405,t406⟩ : S64)]),t407,t408)) else (none)) = some (r1,r2,r3):=H;have A24:=am_ A240;clear A240
     by_cases c25 : x3_1.length < 2932031007402
     ·rw [if_pos c25] at H;have LMc25:=am_ c25;clear c25;obtain ⟨y409,hy409⟩ : ∃ y_ : List (S64),y_ = (x3_1 ++ [(⟨t402,t403,t404,t405,t406⟩ : S64)]):=⟨_,rfl⟩
      replace H : (some (y409,t407,t408)) = some (r1,r2,r3):=by (rw [hy409];with_reducible exact H)
      have Ny409:=am_ hy409;clear hy409;simp only [Option.some.injEq,Prod.mk.injEq] at H;obtain ⟨rfl,rfl,rfl⟩ := H
      go_wp2_with (first | ((with_reducible refine gate_callee (f:=43) rfl ?_);refine goesL_ (some 26) rfl rfl Try.func43 (by kernel_rfl) rfl #[.pointer (some ⟨g,0,none⟩), .int .i64 20] rfl (by (try simp only [List.map_toArray,List.map_cons,List.map_nil]);rfl) ?_;(with_reducible refine (spec_l1Cur_pick.calls g s0_0 x1001_1 x1002_1 20 t399 t400 t401 w0 _ ?side1 ?side2 A22.out).mono ?_);(case side1 => exact HI0.out);(case side2 => exact HB.out);rintro e w26 ⟨rfl,hi,hb,hk⟩;refine ⟨_,rfl, ?_⟩;have n0_:=am_ (Kd.R_mono (Kd.R_keep (IsS73.apart (show IsS73 w0 _ g s0_0 x1001_1 x1002_1 from by exact HI0.out) (by exact HO_3.out) (by decide)) hk (fun _ h => h.2)) (fun _ h => h.1));have n1_:=am_ (KeepBut.trans (by exact HK.out) hk (.inl rfl));have n2_:=am_ hb;have n3_:=am_ hi;clear HO_3;clear HK;clear HB;clear HI0;have HO_3:=n0_;have HK:=n1_;have HB:=n2_;have HI0:=n3_;clear n0_ n1_ n2_ n3_;(try clear hb);(try clear hk);(try clear hi)) | ((with_reducible refine gate_callee (f:=75) rfl ?_);refine goesL_ (some 31) rfl rfl Try.func75 (by kernel_rfl) rfl #[.pointer (some ⟨g,0,none⟩)] rfl (by (try simp only [List.map_toArray,List.map_cons,List.map_nil]);rfl) ?_;(with_reducible refine (spec_l1Cur_anyContainer.calls k1 g s0_0 t400 t401 t402 t403 t404 t405 t406 t407 t408 w0 _ ?side1 ?side2 A24.out).mono ?_);(case side1 => exact HI0.out);(case side2 => exact HB.out);rintro e w27 ⟨rfl,hi,hb,hk⟩;refine ⟨_,rfl, ?_⟩;have n0_:=am_ (Kd.R_mono (Kd.R_keep (IsS73.apart (show IsS73 w0 _ g s0_0 t400 t401 from by exact HI0.out) (by exact HO_3.out) (by decide)) hk (fun _ h => h.2)) (fun _ h => h.1));have n1_:=am_ (KeepBut.trans (by exact HK.out) hk (.inl rfl));have n2_:=am_ hb;have n3_:=am_ hi;clear HO_3;clear HK;clear HB;clear HI0;have HO_3:=n0_;have HK:=n1_;have HB:=n2_;have HI0:=n3_;clear n0_ n1_ n2_ n3_;(try clear hb);(try clear hk);(try clear hi)) | ((with_reducible refine gate_builtin (b := .append) (xs:=#[.tmp 29, .tmp 32]) rfl ?_);at_builtin;refine Kd.R_append k64 w.heap.size rfl (.tmp 29) (.tmp 32) 30 64 (.agg #[(.string ⟨#[]⟩),(.int .i64 0),(.int .i64 0),(.int .i64 0),(.int .i64 0)]) 48 rfl Try.underlying30 info64 rfl (by decide) (by omega) u3 x3_1 (⟨t402,t403,t404,t405,t406⟩ : S64) [.string t402, .int .i64 t403, .int .i64 t404, .int .i64 t405, .int .i64 t406] (fun _ => True) (fun _ => False) rfl rfl ?aP (fun _ hk => hk.elim) ?aF ?aO (Below.refl _ _) ?aS ?aL ?_;(case aP => exact k64_mkM _ _ _ (⟨t402,t403,t404,t405,t406⟩ : S64));(case aF => exact (fun _ _ => trivial));(case aO => exact (by exact HO_3.out));(case aS => exact (keep_size (w:=w) (g:=g) (row:=none) (by exact HK.out)));(case aL => have:=LMc25.out;omega);intro v410 w28 ho hb hg hat;rw [← Ny409.out] at ho;have n0_:=am_ (IsS73.grownX9 HI0.out (by exact HI0.out) hg (IsS73.own_ne HI0.out HO_3.out (by decide)));have n1_:=am_ (below_weaken (by exact HB.out) HL.out hb);have n2_:=am_ (KeepBut.trans (by exact HK.out) (KeepBut.of_grown hg g) (Kd.R_base2 HO_3.out));have n3_:=am_ (ho);clear HI0;clear HB;clear HK;clear HO_3;have HI0:=n0_;have HB:=n1_;have HK:=n2_;have HO411:=n3_;clear n0_ n1_ n2_ n3_;clear ho hb hg hat))
      go_ret
      exact ⟨_,by rfl,by exact HO411.out,by exact HI0.out,by exact HB.out,by exact HK.out⟩
     ·rw [if_neg c25] at H
      exact absurd H (by simp)
    ·rw [if_neg c23] at H;have c23b0 : (t399 == 0) = false:=beq_eq_false_iff_ne.mpr c23;have c23b1 : (t399 != 0) = true:=bne_iff_ne.mpr c23
     by_cases c29 : t399 = 1
     ·rw [if_pos c29] at H;have c29b0 : (t399 == 1) = true:=beq_iff_eq.mpr c29;have c29b1 : (t399 != 1) = false:=bne_eq_false_iff_eq.mpr c29;clear c29
      by_cases c30 : (x3_1.length : Int) > 0
      ·rw [if_pos c30] at H;have c30b0 : decide (0 < (x3_1.length : Int)) = true:=decide_eq_true c30;have c30b1 : decide (0 < x3_1.length) = true:=decide_eq_true (by omega);clear c30;replace H:=Option.bind_eq_some_iff.mp H;obtain ⟨⟨t412,t413,t414⟩,A310,H⟩ := H;replace H : (if 0 ≤ t412 then (if t412 < (x3_1.length : Int) then (if x3_1.length < 2932031007402 then (some ((x3_1 ++ [(⟨(rd_T64 x3_1 t412).f0,(rd_T64 x3_1 t412).f1,(rd_T64 x3_1 t412).f2,(rd_T64 x3_1 t412).f3,(rd_T64 x3_1 t412).f4⟩ : S64)]),t413,t414)) else (none)) else (none)) else (none)) = some (r1,r2,r3):=H;have A31:=am_ A310;clear A310
       by_cases c32 : 0 ≤ t412
       ·rw [if_pos c32] at H;have c32b0 : decide (0 ≤ t412) = true:=decide_eq_true c32;clear c32
        by_cases c33 : t412 < (x3_1.length : Int)
        ·rw [if_pos c33] at H;have c33b0 : decide (t412 < (x3_1.length : Int)) = true:=decide_eq_true c33;clear c33
         by_cases c34 : x3_1.length < 2932031007402
         ·rw [if_pos c34] at H;have LMc34:=am_ c34;clear c34;obtain ⟨y416,hy416⟩ : ∃ y_ : List (S64),y_ = (x3_1 ++ [(⟨(rd_T64 x3_1 t412).f0,(rd_T64 x3_1 t412).f1,(rd_T64 x3_1 t412).f2,(rd_T64 x3_1 t412).f3,(rd_T64 x3_1 t412).f4⟩ : S64)]):=⟨_,rfl⟩
          replace H : (some (y416,t413,t414)) = some (r1,r2,r3):=by (rw [hy416];with_reducible exact H)
          have Ny416:=am_ hy416;clear hy416;simp only [Option.some.injEq,Prod.mk.injEq] at H;obtain ⟨rfl,rfl,rfl⟩ := H
          go_wp2_with (first | ((with_reducible refine gate_callee (f:=43) rfl ?_);refine goesL_ (some 26) rfl rfl Try.func43 (by kernel_rfl) rfl #[.pointer (some ⟨g,0,none⟩), .int .i64 20] rfl (by (try simp only [List.map_toArray,List.map_cons,List.map_nil]);rfl) ?_;(with_reducible refine (spec_l1Cur_pick.calls g s0_0 x1001_1 x1002_1 20 t399 t400 t401 w0 _ ?side1 ?side2 A22.out).mono ?_);(case side1 => exact HI0.out);(case side2 => exact HB.out);rintro e w35 ⟨rfl,hi,hb,hk⟩;refine ⟨_,rfl, ?_⟩;have n0_:=am_ (Kd.R_mono (Kd.R_keep (IsS73.apart (show IsS73 w0 _ g s0_0 x1001_1 x1002_1 from by exact HI0.out) (by exact HO_3.out) (by decide)) hk (fun _ h => h.2)) (fun _ h => h.1));have n1_:=am_ (KeepBut.trans (by exact HK.out) hk (.inl rfl));have n2_:=am_ hb;have n3_:=am_ hi;clear HO_3;clear HK;clear HB;clear HI0;have HO_3:=n0_;have HK:=n1_;have HB:=n2_;have HI0:=n3_;clear n0_ n1_ n2_ n3_;(try clear hb);(try clear hk);(try clear hi);obtain ⟨Ao36,co36,eo36⟩ := Kd.R_slice HO_3.out;subst eo36) | ((with_reducible refine gate_callee (f:=43) rfl ?_);refine goesL_ (some 44) rfl rfl Try.func43 (by kernel_rfl) rfl #[.pointer (some ⟨g,0,none⟩), .int .i64 (x3_1.length : Int)] rfl (by (try simp only [List.map_toArray,List.map_cons,List.map_nil]);rfl) ?_;(with_reducible refine (spec_l1Cur_pick.calls g s0_0 t400 t401 (x3_1.length : Int) t412 t413 t414 w0 _ ?side1 ?side2 A31.out).mono ?_);(case side1 => exact HI0.out);(case side2 => exact HB.out);rintro e w37 ⟨rfl,hi,hb,hk⟩;refine ⟨_,rfl, ?_⟩;have n0_:=am_ (Kd.R_mono (Kd.R_keep (IsS73.apart (show IsS73 w0 _ g s0_0 t400 t401 from by exact HI0.out) (by exact HO_3.out) (by decide)) hk (fun _ h => h.2)) (fun _ h => h.1));have n1_:=am_ (KeepBut.trans (by exact HK.out) hk (.inl rfl));have n2_:=am_ hb;have n3_:=am_ hi;clear HO_3;clear HK;clear HB;clear HI0;have HO_3:=n0_;have HK:=n1_;have HB:=n2_;have HI0:=n3_;clear n0_ n1_ n2_ n3_;(try clear hb);(try clear hk);(try clear hi);have p415 : 0 ≤ (t412 : Int):=of_decide_eq_true (by (with_reducible assumption));have q415 : t412 < (x3_1.length : Int):=of_decide_eq_true (by (with_reducible assumption));obtain ⟨ad415,e415,hx415_0,hx415_1,hx415_2,hx415_3,hx415_4⟩ := at_T64 (Kd.R_reads' HO_3.out).2.2 t412 p415 q415;cases e415;replace p415:=eq_true p415;replace q415:=eq_true q415) | ((with_reducible refine gate_builtin (b := .append) (xs:=#[.tmp 39, .tmp 47]) rfl ?_);at_builtin;refine Kd.R_append k64 w.heap.size rfl (.tmp 39) (.tmp 47) 30 64 (.agg #[(.string ⟨#[]⟩),(.int .i64 0),(.int .i64 0),(.int .i64 0),(.int .i64 0)]) 48 rfl Try.underlying30 info64 rfl (by decide) (by omega) (.slice (some ad415) x3_1.length co36) x3_1 (⟨(rd_T64 x3_1 t412).f0,(rd_T64 x3_1 t412).f1,(rd_T64 x3_1 t412).f2,(rd_T64 x3_1 t412).f3,(rd_T64 x3_1 t412).f4⟩ : S64) [.string ((rd_T64 x3_1 t412).f0), .int .i64 ((rd_T64 x3_1 t412).f1), .int .i64 ((rd_T64 x3_1 t412).f2), .int .i64 ((rd_T64 x3_1 t412).f3), .int .i64 ((rd_T64 x3_1 t412).f4)] (fun _ => True) (fun _ => False) rfl rfl ?aP (fun _ hk => hk.elim) ?aF ?aO (Below.refl _ _) ?aS ?aL ?_;(case aP => exact k64_mkM _ _ _ (⟨(rd_T64 x3_1 t412).f0,(rd_T64 x3_1 t412).f1,(rd_T64 x3_1 t412).f2,(rd_T64 x3_1 t412).f3,(rd_T64 x3_1 t412).f4⟩ : S64));(case aF => exact (fun _ _ => trivial));(case aO => exact (by exact HO_3.out));(case aS => exact (keep_size (w:=w) (g:=g) (row:=none) (by exact HK.out)));(case aL => have:=LMc34.out;omega);intro v417 w38 ho hb hg hat;rw [← Ny416.out] at ho;have n0_:=am_ (IsS73.grownX9 HI0.out (by exact HI0.out) hg (IsS73.own_ne HI0.out HO_3.out (by decide)));have n1_:=am_ (below_weaken (by exact HB.out) HL.out hb);have n2_:=am_ (KeepBut.trans (by exact HK.out) (KeepBut.of_grown hg g) (Kd.R_base2 HO_3.out));have n3_:=am_ (ho);clear HI0;clear HB;clear HK;clear HO_3;have HI0:=n0_;have HB:=n1_;have HK:=n2_;have HO418:=n3_;clear n0_ n1_ n2_ n3_;clear ho hb hg hat))
          go_ret
          exact ⟨_,by rfl,by exact HO418.out,by exact HI0.out,by exact HB.out,by exact HK.out⟩
         ·rw [if_neg c34] at H
          exact absurd H (by simp)
        ·rw [if_neg c33] at H
         exact absurd H (by simp)
       ·rw [if_neg c32] at H
        exact absurd H (by simp)
      ·rw [if_neg c30] at H;have c30b0 : decide (0 < (x3_1.length : Int)) = false:=decide_eq_false c30;have c30b1 : decide (0 < x3_1.length) = false:=decide_eq_false (by omega);clear c30;simp only [Option.some.injEq,Prod.mk.injEq] at H;obtain ⟨rfl,rfl,rfl⟩ := H
       go_wp2_with (((with_reducible refine gate_callee (f:=43) rfl ?_);refine goesL_ (some 26) rfl rfl Try.func43 (by kernel_rfl) rfl #[.pointer (some ⟨g,0,none⟩), .int .i64 20] rfl (by (try simp only [List.map_toArray,List.map_cons,List.map_nil]);rfl) ?_;(with_reducible refine (spec_l1Cur_pick.calls g s0_0 x1001_1 x1002_1 20 t399 t400 t401 w0 _ ?side1 ?side2 A22.out).mono ?_);(case side1 => exact HI0.out);(case side2 => exact HB.out);rintro e w39 ⟨rfl,hi,hb,hk⟩;refine ⟨_,rfl, ?_⟩;have n0_:=am_ (Kd.R_mono (Kd.R_keep (IsS73.apart (show IsS73 w0 _ g s0_0 x1001_1 x1002_1 from by exact HI0.out) (by exact HO_3.out) (by decide)) hk (fun _ h => h.2)) (fun _ h => h.1));have n1_:=am_ (KeepBut.trans (by exact HK.out) hk (.inl rfl));have n2_:=am_ hb;have n3_:=am_ hi;clear HO_3;clear HK;clear HB;clear HI0;have HO_3:=n0_;have HK:=n1_;have HB:=n2_;have HI0:=n3_;clear n0_ n1_ n2_ n3_;(try clear hb);(try clear hk);(try clear hi);obtain ⟨Ao40,co40,eo40⟩ := Kd.R_slice HO_3.out;subst eo40))
       go_ret
       exact ⟨_,by rfl,by exact HO_3.out,by exact HI0.out,by exact HB.out,by exact HK.out⟩
     ·rw [if_neg c29] at H;have c29b0 : (t399 == 1) = false:=beq_eq_false_iff_ne.mpr c29;have c29b1 : (t399 != 1) = true:=bne_iff_ne.mpr c29
      by_cases c41 : t399 = 2
      ·rw [if_pos c41] at H;have c41b0 : (t399 == 2) = true:=beq_iff_eq.mpr c41;have c41b1 : (t399 != 2) = false:=bne_eq_false_iff_eq.mpr c41;clear c41;have H':=am_ H;clear H
       go_wp2_with (((with_reducible refine gate_callee (f:=43) rfl ?_);refine goesL_ (some 26) rfl rfl Try.func43 (by kernel_rfl) rfl #[.pointer (some ⟨g,0,none⟩), .int .i64 20] rfl (by (try simp only [List.map_toArray,List.map_cons,List.map_nil]);rfl) ?_;(with_reducible refine (spec_l1Cur_pick.calls g s0_0 x1001_1 x1002_1 20 t399 t400 t401 w0 _ ?side1 ?side2 A22.out).mono ?_);(case side1 => exact HI0.out);(case side2 => exact HB.out);rintro e w42 ⟨rfl,hi,hb,hk⟩;refine ⟨_,rfl, ?_⟩;have n0_:=am_ (Kd.R_mono (Kd.R_keep (IsS73.apart (show IsS73 w0 _ g s0_0 x1001_1 x1002_1 from by exact HI0.out) (by exact HO_3.out) (by decide)) hk (fun _ h => h.2)) (fun _ h => h.1));have n1_:=am_ (KeepBut.trans (by exact HK.out) hk (.inl rfl));have n2_:=am_ hb;have n3_:=am_ hi;clear HO_3;clear HK;clear HB;clear HI0;have HO_3:=n0_;have HK:=n1_;have HB:=n2_;have HI0:=n3_;clear n0_ n1_ n2_ n3_;(try clear hb);(try clear hk);(try clear hi)))
       (skip)
       go_loopg [3,6] k1 (fun kq v3 v6 w' => ∃ (x3_2 : List (S64)) (x6_2 : Int) (x1001_2 : Int) (x1002_2 : Int),v6 = .int .i64 x6_2 ∧ Aside0 (spec_l1Cur_containers.l1 kq x3_2 x6_2 s0_0 x1001_2 x1002_2 = some (r1,r2,r3)) ∧ Aside0 (kq ≤ k1) ∧ Aside0 (Kd.R k64 64 w' w.heap.size (fun _ => True) v3 x3_2) ∧ Aside0 (IsS73 w0 w' g s0_0 x1001_2 x1002_2) ∧ Aside0 (KeepBut w w' g none) ∧ Aside0 (Below w0.heap.size w0 w'))
       case atStart => exact ⟨(x3_1),(0),(t400),(t401),(by rfl),H',⟨Nat.le_refl _⟩,⟨by exact HO_3.out⟩,⟨by exact HI0.out⟩,⟨by exact HK.out⟩,⟨by exact HB.out⟩⟩
       case round =>
        clear H';(try clear c1);(try clear c2);(try clear p2);(try clear c3);(try clear c4);(try clear p4);(try clear q4);(try clear hx4);(try clear c6);(try clear c6b0);(try clear p6);(try clear c7);(try clear c9);(try clear c9b0);(try clear c10);(try clear c13);(try clear c19);(try clear c23);(try clear c23b0);(try clear c23b1);(try clear c25);(try clear c29);(try clear c29b0);(try clear c29b1);(try clear c30);(try clear c30b0);(try clear c30b1);(try clear c32);(try clear c32b0);(try clear c33);(try clear c33b0);(try clear c34);(try clear c41);(try clear c41b0);(try clear c41b1);(try clear p41);(try clear q41);(try clear hx41);(try clear hcz14_0);(try clear hcz14_1);(try clear hcz14_2);(try clear hcz14_3);(try clear hcz14_4);(try clear hcz20_0);(try clear hcz20_1);(try clear hcz20_2);(try clear hcz20_3);(try clear hcz20_4);(try clear hfz14_0);(try clear hfz14_1);(try clear hfz14_2);(try clear hfz14_3);(try clear hfz14_4);(try clear hfz20_0);(try clear hfz20_1);(try clear hfz20_2);(try clear hfz20_3);(try clear hfz20_4);(try clear hx415_0);(try clear hx415_1);(try clear hx415_2);(try clear hx415_3);(try clear hx415_4);(try clear p2);(try clear p415);(try clear q415);obtain ⟨x3_2,x6_2,x1001_2,x1002_2,rfl,HA,HK2,HO_3,HI0,HK,HB⟩ := hrel
        cases gk with
        | zero => exact absurd HA.out (by simp [spec_l1Cur_containers.l1])
        | succ k2 =>
         have H:=HA.out;clear HA;simp only [spec_l1Cur_containers.l1] at H;replace H:=Option.bind_eq_some_iff.mp H;obtain ⟨⟨t419,t420,t421⟩,A430,H⟩ := H;replace H : (if (x3_2.length : Int) < (wrap64 (12 + t419)) then (if x6_2 < 14 then ((spec_l2Number.f k2 (⟨#[77,65,88]⟩ : ByteArray) x6_2).bind fun t422 => (if x3_2.length < 2932031007402 then (spec_l1Cur_containers.l1 k2 (x3_2 ++ [(⟨t422,1,wrap64 (100 + x6_2),1,wrap64 (1 + (Int.tmod x6_2 9))⟩ : S64)]) (wrap64 (x6_2 + 1)) s0_0 t420 t421) else (none))) else (some (x3_2,t420,t421))) else (some (x3_2,t420,t421))) = some (r1,r2,r3):=H;have A43:=am_ A430;clear A430
         by_cases c44 : (x3_2.length : Int) < (wrap64 (12 + t419))
         ·rw [if_pos c44] at H;have c44b0 : decide ((x3_2.length : Int) < (wrap64 (12 + t419))) = true:=decide_eq_true c44;clear c44
          by_cases c45 : x6_2 < 14
          ·rw [if_pos c45] at H;have c45b0 : decide (x6_2 < 14) = true:=decide_eq_true c45;clear c45;replace H:=Option.bind_eq_some_iff.mp H;obtain ⟨t422,A460,H⟩ := H;replace H : (if x3_2.length < 2932031007402 then (spec_l1Cur_containers.l1 k2 (x3_2 ++ [(⟨t422,1,wrap64 (100 + x6_2),1,wrap64 (1 + (Int.tmod x6_2 9))⟩ : S64)]) (wrap64 (x6_2 + 1)) s0_0 t420 t421) else (none)) = some (r1,r2,r3):=H;have A46:=am_ A460;clear A460
           by_cases c47 : x3_2.length < 2932031007402
           ·rw [if_pos c47] at H;have LMc47:=am_ c47;clear c47;obtain ⟨y423,hy423⟩ : ∃ y_ : List (S64),y_ = (x3_2 ++ [(⟨t422,1,wrap64 (100 + x6_2),1,wrap64 (1 + (Int.tmod x6_2 9))⟩ : S64)]):=⟨_,rfl⟩
            replace H : (spec_l1Cur_containers.l1 k2 y423 (wrap64 (x6_2 + 1)) s0_0 t420 t421) = some (r1,r2,r3):=by (rw [hy423];with_reducible exact H)
            have Ny423:=am_ hy423;clear hy423;have H':=am_ H;clear H;obtain ⟨Ao48,co48,eo48⟩ := Kd.R_slice HO_3.out;subst eo48
            go_wp2_with (first | ((with_reducible refine gate_callee (f:=43) rfl ?_);refine goesL_ (some 54) rfl rfl Try.func43 (by kernel_rfl) rfl #[.pointer (some ⟨g,0,none⟩), .int .i64 2] rfl (by (try simp only [List.map_toArray,List.map_cons,List.map_nil]);rfl) ?_;(with_reducible refine (spec_l1Cur_pick.calls g s0_0 x1001_2 x1002_2 2 t419 t420 t421 w0 _ ?side1 ?side2 A43.out).mono ?_);(case side1 => exact HI0.out);(case side2 => exact HB.out);rintro e w49 ⟨rfl,hi,hb,hk⟩;refine ⟨_,rfl, ?_⟩;have n0_:=am_ (Kd.R_mono (Kd.R_keep (IsS73.apart (show IsS73 w0 _ g s0_0 x1001_2 x1002_2 from by exact HI0.out) (by exact HO_3.out) (by decide)) hk (fun _ h => h.2)) (fun _ h => h.1));have n1_:=am_ (KeepBut.trans (by exact HK.out) hk (.inl rfl));have n2_:=am_ hb;have n3_:=am_ hi;clear HO_3;clear HK;clear HB;clear HI0;have HO_3:=n0_;have HK:=n1_;have HB:=n2_;have HI0:=n3_;clear n0_ n1_ n2_ n3_;(try clear hb);(try clear hk);(try clear hi)) | ((with_reducible refine gate_callee (f:=76) rfl ?_);refine goesL_ (some 65) rfl rfl Try.func76 (by kernel_rfl) rfl #[.string (⟨#[77,65,88]⟩ : ByteArray), .int .i64 x6_2] rfl (by (try simp only [List.map_toArray,List.map_cons,List.map_nil]);rfl) ?_;(with_reducible refine (spec_l2Number.calls k2 (⟨#[77,65,88]⟩ : ByteArray) x6_2 t422 _ A46.out).mono ?_);rintro e w50 ⟨rfl,hb⟩;refine ⟨_,rfl, ?_⟩;have n0_:=am_ (Kd.R_below (by exact HO_3.out) hb);have n1_:=am_ (IsS73.below (by exact HI0.out) hb);have n2_:=am_ (KeepBut.trans (by exact HK.out) (KeepBut.of_below hb g none) (.inl rfl));have n3_:=am_ (below_step (by exact HB.out) hb);clear HO_3;clear HI0;clear HK;clear HB;have HO_3:=n0_;have HI0:=n1_;have HK:=n2_;have HB:=n3_;clear n0_ n1_ n2_ n3_;(try clear hb)) | ((with_reducible refine gate_builtin (b := .append) (xs:=#[.tmp 63, .tmp 72]) rfl ?_);at_builtin;refine Kd.R_append k64 w.heap.size rfl (.tmp 63) (.tmp 72) 30 64 (.agg #[(.string ⟨#[]⟩),(.int .i64 0),(.int .i64 0),(.int .i64 0),(.int .i64 0)]) 48 rfl Try.underlying30 info64 rfl (by decide) (by omega) (.slice Ao48 x3_2.length co48) x3_2 (⟨t422,1,wrap64 (100 + x6_2),1,wrap64 (1 + (Int.tmod x6_2 9))⟩ : S64) [.string t422, .int .i64 1, .int .i64 (wrap64 (100 + x6_2)), .int .i64 1, .int .i64 (wrap64 (1 + (Int.tmod x6_2 9)))] (fun _ => True) (fun _ => False) rfl rfl ?aP (fun _ hk => hk.elim) ?aF ?aO (Below.refl _ _) ?aS ?aL ?_;(case aP => exact k64_mkM _ _ _ (⟨t422,1,wrap64 (100 + x6_2),1,wrap64 (1 + (Int.tmod x6_2 9))⟩ : S64));(case aF => exact (fun _ _ => trivial));(case aO => exact (by exact HO_3.out));(case aS => exact (keep_size (w:=w) (g:=g) (row:=none) (by exact HK.out)));(case aL => have:=LMc47.out;omega);intro v424 w51 ho hb hg hat;rw [← Ny423.out] at ho;have n0_:=am_ (IsS73.grownX9 HI0.out (by exact HI0.out) hg (IsS73.own_ne HI0.out HO_3.out (by decide)));have n1_:=am_ (below_weaken (by exact HB.out) HL.out hb);have n2_:=am_ (KeepBut.trans (by exact HK.out) (KeepBut.of_grown hg g) (Kd.R_base2 HO_3.out));have n3_:=am_ (ho);clear HI0;clear HB;clear HK;clear HO_3;have HI0:=n0_;have HB:=n1_;have HK:=n2_;have HO425:=n3_;clear n0_ n1_ n2_ n3_;clear ho hb hg hat))
            go_roundg k2
            case measure => have:=HK1.out;have:=HK2.out;omega
            case rel => exact ⟨(y423),(wrap64 (x6_2 + 1)),(t420),(t421),(by rfl),H',⟨by have:=HK1.out;have:=HK2.out;omega⟩,⟨by exact HO425.out⟩,⟨by exact HI0.out⟩,⟨by exact HK.out⟩,⟨by exact HB.out⟩⟩
           ·rw [if_neg c47] at H
            exact absurd H (by simp)
          ·rw [if_neg c45] at H;have c45b0 : decide (x6_2 < 14) = false:=decide_eq_false c45;clear c45;simp only [Option.some.injEq,Prod.mk.injEq] at H;obtain ⟨rfl,rfl,rfl⟩ := H;obtain ⟨Ao52,co52,eo52⟩ := Kd.R_slice HO_3.out;subst eo52
           go_wp2_with (((with_reducible refine gate_callee (f:=43) rfl ?_);refine goesL_ (some 54) rfl rfl Try.func43 (by kernel_rfl) rfl #[.pointer (some ⟨g,0,none⟩), .int .i64 2] rfl (by (try simp only [List.map_toArray,List.map_cons,List.map_nil]);rfl) ?_;(with_reducible refine (spec_l1Cur_pick.calls g s0_0 x1001_2 x1002_2 2 t419 t420 t421 w0 _ ?side1 ?side2 A43.out).mono ?_);(case side1 => exact HI0.out);(case side2 => exact HB.out);rintro e w53 ⟨rfl,hi,hb,hk⟩;refine ⟨_,rfl, ?_⟩;have n0_:=am_ (Kd.R_mono (Kd.R_keep (IsS73.apart (show IsS73 w0 _ g s0_0 x1001_2 x1002_2 from by exact HI0.out) (by exact HO_3.out) (by decide)) hk (fun _ h => h.2)) (fun _ h => h.1));have n1_:=am_ (KeepBut.trans (by exact HK.out) hk (.inl rfl));have n2_:=am_ hb;have n3_:=am_ hi;clear HO_3;clear HK;clear HB;clear HI0;have HO_3:=n0_;have HK:=n1_;have HB:=n2_;have HI0:=n3_;clear n0_ n1_ n2_ n3_;(try clear hb);(try clear hk);(try clear hi)))
           go_ret
           exact ⟨_,by rfl,by exact HO_3.out,by exact HI0.out,by exact HB.out,by exact HK.out⟩
         ·rw [if_neg c44] at H;have c44b0 : decide ((x3_2.length : Int) < (wrap64 (12 + t419))) = false:=decide_eq_false c44;clear c44;simp only [Option.some.injEq,Prod.mk.injEq] at H;obtain ⟨rfl,rfl,rfl⟩ := H;obtain ⟨Ao54,co54,eo54⟩ := Kd.R_slice HO_3.out;subst eo54
          go_wp2_with (((with_reducible refine gate_callee (f:=43) rfl ?_);refine goesL_ (some 54) rfl rfl Try.func43 (by kernel_rfl) rfl #[.pointer (some ⟨g,0,none⟩), .int .i64 2] rfl (by (try simp only [List.map_toArray,List.map_cons,List.map_nil]);rfl) ?_;(with_reducible refine (spec_l1Cur_pick.calls g s0_0 x1001_2 x1002_2 2 t419 t420 t421 w0 _ ?side1 ?side2 A43.out).mono ?_);(case side1 => exact HI0.out);(case side2 => exact HB.out);rintro e w55 ⟨rfl,hi,hb,hk⟩;refine ⟨_,rfl, ?_⟩;have n0_:=am_ (Kd.R_mono (Kd.R_keep (IsS73.apart (show IsS73 w0 _ g s0_0 x1001_2 x1002_2 from by exact HI0.out) (by exact HO_3.out) (by decide)) hk (fun _ h => h.2)) (fun _ h => h.1));have n1_:=am_ (KeepBut.trans (by exact HK.out) hk (.inl rfl));have n2_:=am_ hb;have n3_:=am_ hi;clear HO_3;clear HK;clear HB;clear HI0;have HO_3:=n0_;have HK:=n1_;have HB:=n2_;have HI0:=n3_;clear n0_ n1_ n2_ n3_;(try clear hb);(try clear hk);(try clear hi)))
          go_ret
          exact ⟨_,by rfl,by exact HO_3.out,by exact HI0.out,by exact HB.out,by exact HK.out⟩
      ·rw [if_neg c41] at H;have c41b0 : (t399 == 2) = false:=beq_eq_false_iff_ne.mpr c41;have c41b1 : (t399 != 2) = true:=bne_iff_ne.mpr c41;simp only [Option.some.injEq,Prod.mk.injEq] at H;obtain ⟨rfl,rfl,rfl⟩ := H
       go_wp2_with (((with_reducible refine gate_callee (f:=43) rfl ?_);refine goesL_ (some 26) rfl rfl Try.func43 (by kernel_rfl) rfl #[.pointer (some ⟨g,0,none⟩), .int .i64 20] rfl (by (try simp only [List.map_toArray,List.map_cons,List.map_nil]);rfl) ?_;(with_reducible refine (spec_l1Cur_pick.calls g s0_0 x1001_1 x1002_1 20 t399 t400 t401 w0 _ ?side1 ?side2 A22.out).mono ?_);(case side1 => exact HI0.out);(case side2 => exact HB.out);rintro e w56 ⟨rfl,hi,hb,hk⟩;refine ⟨_,rfl, ?_⟩;have n0_:=am_ (Kd.R_mono (Kd.R_keep (IsS73.apart (show IsS73 w0 _ g s0_0 x1001_1 x1002_1 from by exact HI0.out) (by exact HO_3.out) (by decide)) hk (fun _ h => h.2)) (fun _ h => h.1));have n1_:=am_ (KeepBut.trans (by exact HK.out) hk (.inl rfl));have n2_:=am_ hb;have n3_:=am_ hi;clear HO_3;clear HK;clear HB;clear HI0;have HO_3:=n0_;have HK:=n1_;have HB:=n2_;have HI0:=n3_;clear n0_ n1_ n2_ n3_;(try clear hb);(try clear hk);(try clear hi)))
       go_ret
       exact ⟨_,by rfl,by exact HO_3.out,by exact HI0.out,by exact HB.out,by exact HK.out⟩

/-! ### spec_DrawMostContainers: function 14 -/
def spec_DrawMostContainers.f (k : Nat) (l0 : List Int) : Option ((List (S54)) × (List (S64))):=(spec_l1Cur_pick.f l0 0 0 8).bind fun bt427 => ((spec_l1Cur_train.f k l0 bt427.2.1 bt427.2.2 (wrap64 (3 + (wrap64 (Int.tdiv bt427.1 7))))).bind fun bt430 => ((spec_l1Cur_containers.f k l0 bt430.2.1 bt430.2.2).bind fun bt435 => (if (bt435.1.length : Int) > 5 then ((spec_l1Cur_one.f l0 bt435.2.1 bt435.2.2 12).bind fun bt440 => (if bt440.1 = true then (some (bt430.1,bt435.1)) else (if 5 ≤ (bt435.1.length : Int) then (some (bt430.1,(bt435.1.take (5 : Int).toNat))) else (none)))) else (some (bt430.1,bt435.1)))))
theorem spec_DrawMostContainers.mono : ∀ a0 k,LeO (spec_DrawMostContainers.f k a0) (spec_DrawMostContainers.f (k + 1) a0):=by
 intro a0 k
 unfold spec_DrawMostContainers.f
 repeat' first
   | (with_reducible exact spec_l1Cur_containers.mono _ _ _ _)
   | (with_reducible exact spec_l1Cur_train.mono _ _ _ _ _)
   | (with_reducible exact LeO.refl _)
   | (with_reducible exact LeO.none _)
   | (with_reducible refine LeO.ite ?_ ?_)
   | (with_reducible refine LeO.bind ?_ (fun _ => ?_))
   | exact spec_l1Cur_containers.mono _ _ _ _
   | exact spec_l1Cur_train.mono _ _ _ _ _
   | exact LeO.none _
   | refine LeO.ite ?_ ?_
   | refine LeO.bind ?_ (fun _ => ?_)
set_option maxHeartbeats 8000000 in
set_option maxRecDepth 100000 in
theorem spec_DrawMostContainers.calls (k : Nat) (A0 : Option Addr) (c0 : Nat) (l0 : List Int) (r1 : List (S54)) (r2 : List (S64)) (w : World) (hr0 : Kd.C (Kd.int .u8) w A0 l0.length l0) (hc0 : l0.length ≤ c0) (h : spec_DrawMostContainers.f k l0 = some (r1,r2)) :
  Calls Try.prog 14 #[.slice A0 l0.length c0] w fun e w' => ∃ v0_ v1_ : Value,e = .returned (.tuple #[v0_,v1_]) ∧ Kd.R k54 54 w' w.heap.size (fun _ => True) v0_ r1 ∧ Kd.R k64 64 w' w.heap.size (fun _ => True) v1_ r2 ∧ Below w.heap.size w w':=by
 have hu73:=Try.underlying73;have HR0:=am_ hr0;have HC0:=am_ hc0;clear hr0 hc0;have HB:=am_ (Below.refl w.heap.size w);have H : ((spec_l1Cur_pick.f l0 0 0 8).bind fun bt427 => ((spec_l1Cur_train.f k l0 bt427.2.1 bt427.2.2 (wrap64 (3 + (wrap64 (Int.tdiv bt427.1 7))))).bind fun bt430 => ((spec_l1Cur_containers.f k l0 bt430.2.1 bt430.2.2).bind fun bt435 => (if (bt435.1.length : Int) > 5 then ((spec_l1Cur_one.f l0 bt435.2.1 bt435.2.2 12).bind fun bt440 => (if bt440.1 = true then (some (bt430.1,bt435.1)) else (if 5 ≤ (bt435.1.length : Int) then (some (bt430.1,(bt435.1.take (5 : Int).toNat))) else (none)))) else (some (bt430.1,bt435.1)))))) = some (r1,r2):=h;clear h;replace H:=Option.bind_eq_some_iff.mp H;obtain ⟨⟨t427,t428,t429⟩,A20,H⟩ := H;replace H : ((spec_l1Cur_train.f k l0 t428 t429 (wrap64 (3 + (wrap64 (Int.tdiv t427 7))))).bind fun bt430 => ((spec_l1Cur_containers.f k l0 bt430.2.1 bt430.2.2).bind fun bt435 => (if (bt435.1.length : Int) > 5 then ((spec_l1Cur_one.f l0 bt435.2.1 bt435.2.2 12).bind fun bt440 => (if bt440.1 = true then (some (bt430.1,bt435.1)) else (if 5 ≤ (bt435.1.length : Int) then (some (bt430.1,(bt435.1.take (5 : Int).toNat))) else (none)))) else (some (bt430.1,bt435.1))))) = some (r1,r2):=H;have A2:=am_ A20;clear A20;replace H:=Option.bind_eq_some_iff.mp H;obtain ⟨⟨t430,t433,t434⟩,A30,H⟩ := H;replace H : ((spec_l1Cur_containers.f k l0 t433 t434).bind fun bt435 => (if (bt435.1.length : Int) > 5 then ((spec_l1Cur_one.f l0 bt435.2.1 bt435.2.2 12).bind fun bt440 => (if bt440.1 = true then (some (t430,bt435.1)) else (if 5 ≤ (bt435.1.length : Int) then (some (t430,(bt435.1.take (5 : Int).toNat))) else (none)))) else (some (t430,bt435.1)))) = some (r1,r2):=H;have A3:=am_ A30;clear A30;replace H:=Option.bind_eq_some_iff.mp H;obtain ⟨⟨t435,t438,t439⟩,A40,H⟩ := H;replace H : (if (t435.length : Int) > 5 then ((spec_l1Cur_one.f l0 t438 t439 12).bind fun bt440 => (if bt440.1 = true then (some (t430,t435)) else (if 5 ≤ (t435.length : Int) then (some (t430,(t435.take (5 : Int).toNat))) else (none)))) else (some (t430,t435))) = some (r1,r2):=H;have A4:=am_ A40;clear A40
 by_cases c5 : (t435.length : Int) > 5
 ·rw [if_pos c5] at H;have c5b0 : decide (5 < (t435.length : Int)) = true:=decide_eq_true c5;have c5b1 : decide (5 < t435.length) = true:=decide_eq_true (by omega);clear c5;replace H:=Option.bind_eq_some_iff.mp H;obtain ⟨⟨t440,t441,t442⟩,A60,H⟩ := H;replace H : (if t440 = true then (some (t430,t435)) else (if 5 ≤ (t435.length : Int) then (some (t430,(t435.take (5 : Int).toNat))) else (none))) = some (r1,r2):=H;have A6:=am_ A60;clear A60
  by_cases c7 : t440 = true
  ·subst c7
   have H1 : (some (t430,t435)) = some (r1,r2):=by rw [if_pos rfl] at H;exact H
   clear H;have H:=H1;clear H1;simp only [Option.some.injEq,Prod.mk.injEq] at H;obtain ⟨rfl,rfl⟩ := H
   go_enter Try.func14,Try.ntmps14
   go_wp2_with (first | ((with_reducible refine gate_dst (N:=9) rfl ?_);refine box_event ?hg (N:=9) ?hd (cs:=#[.slice A0 l0.length c0, .int .i64 0, .int .u64 0]) (t:=73) ?hr ?_;(case hd => rfl);(case hg => rfl);(case hr => (go_simp;done));intro gb426 hg w8 hbox hb;have n0_:=am_ (below_step (by exact HB.out) hb);have n1_:=am_ ((show IsS73 w _ gb426 l0 0 0 from ⟨_,_,hbox,(ge_ hg (by exact HB.out)),HR0.out⟩));clear HB;have HB:=n0_;have HI426:=n1_;clear n0_ n1_;clear hb hbox hg) | ((with_reducible refine gate_callee (f:=43) rfl ?_);refine goesL_ (some 12) rfl rfl Try.func43 (by kernel_rfl) rfl #[.pointer (some ⟨gb426,0,none⟩), .int .i64 8] rfl (by (try simp only [List.map_toArray,List.map_cons,List.map_nil]);rfl) ?_;(with_reducible refine (spec_l1Cur_pick.calls gb426 l0 0 0 8 t427 t428 t429 w _ ?side1 ?side2 A2.out).mono ?_);(case side1 => exact HI426.out);(case side2 => exact HB.out);rintro e w9 ⟨rfl,hi,hb,hk⟩;refine ⟨_,rfl, ?_⟩;have n0_:=am_ hb;have n1_:=am_ hi;clear HB;clear HI426;have HB:=n0_;have HI426:=n1_;clear n0_ n1_;(try clear hb);(try clear hk);(try clear hi)) | ((with_reducible refine gate_callee (f:=42) rfl ?_);refine goesL_ (some 15) rfl rfl Try.func42 (by kernel_rfl) rfl #[.pointer (some ⟨gb426,0,none⟩), .int .i64 (wrap64 (3 + (wrap64 (Int.tdiv t427 7))))] rfl (by (try simp only [List.map_toArray,List.map_cons,List.map_nil]);rfl) ?_;(with_reducible refine (spec_l1Cur_train.calls k gb426 l0 t428 t429 (wrap64 (3 + (wrap64 (Int.tdiv t427 7)))) t430 t433 t434 w _ ?side1 ?side2 A3.out).mono ?_);(case side1 => exact HI426.out);(case side2 => exact HB.out);rintro e w10 ⟨v431,rfl,ho0,hi,hb,hk⟩;refine ⟨_,rfl, ?_⟩;have n0_:=am_ (Kd.R_lower ho0 (below_size (by exact HB.out)));have n1_:=am_ hb;have n2_:=am_ hi;clear HB;clear HI426;have HO432:=n0_;have HB:=n1_;have HI426:=n2_;clear n0_ n1_ n2_;(try clear hb);(try clear hk);(try clear hi);(try clear ho0)) | ((with_reducible refine gate_callee (f:=44) rfl ?_);refine goesL_ (some 17) rfl rfl Try.func44 (by kernel_rfl) rfl #[.pointer (some ⟨gb426,0,none⟩)] rfl (by (try simp only [List.map_toArray,List.map_cons,List.map_nil]);rfl) ?_;(with_reducible refine (spec_l1Cur_containers.calls k gb426 l0 t433 t434 t435 t438 t439 w _ ?side1 ?side2 A4.out).mono ?_);(case side1 => exact HI426.out);(case side2 => exact HB.out);rintro e w11 ⟨v436,rfl,ho0,hi,hb,hk⟩;refine ⟨_,rfl, ?_⟩;have n0_:=am_ (Kd.R_mono (Kd.R_keep (IsS73.apart (show IsS73 w _ gb426 l0 t433 t434 from by exact HI426.out) (by exact HO432.out) (by decide)) hk (fun _ h => h.2)) (fun _ h => h.1));have n1_:=am_ (Kd.R_lower ho0 (below_size (by exact HB.out)));have n2_:=am_ hb;have n3_:=am_ hi;clear HO432;clear HB;clear HI426;have HO432:=n0_;have HO437:=n1_;have HB:=n2_;have HI426:=n3_;clear n0_ n1_ n2_ n3_;(try clear hb);(try clear hk);(try clear hi);(try clear ho0);obtain ⟨Ao12,co12,eo12⟩ := Kd.R_slice HO437.out;subst eo12) | (go_at_call 45;(with_reducible refine (spec_l1Cur_one.calls gb426 l0 t438 t439 12 true t441 t442 w _ ?side1 ?side2 A6.out).mono ?_);(case side1 => exact HI426.out);(case side2 => exact HB.out);rintro e w13 ⟨rfl,hi,hb,hk⟩;have n0_:=am_ (Kd.R_mono (Kd.R_keep (IsS73.apart (show IsS73 w _ gb426 l0 t438 t439 from by exact HI426.out) (by exact HO432.out) (by decide)) hk (fun _ h => h.2)) (fun _ h => h.1));have n1_:=am_ (Kd.R_mono (Kd.R_keep (IsS73.apart (show IsS73 w _ gb426 l0 t438 t439 from by exact HI426.out) (by exact HO437.out) (by decide)) hk (fun _ h => h.2)) (fun _ h => h.1));have n2_:=am_ hb;have n3_:=am_ hi;clear HO432;clear HO437;clear HB;clear HI426;have HO432:=n0_;have HO437:=n1_;have HB:=n2_;have HI426:=n3_;clear n0_ n1_ n2_ n3_;(try clear hb);(try clear hk);(try clear hi)))
   go_ret2
   exact ⟨_,_,by rfl,by exact HO432.out,by exact HO437.out,by exact HB.out⟩
  ·replace c7:=Bool.eq_false_iff.mpr c7;subst c7
   have H1 : (if 5 ≤ (t435.length : Int) then (some (t430,(t435.take (5 : Int).toNat))) else (none)) = some (r1,r2):=by rw [if_neg (show ¬ (false = true) by decide)] at H;exact H
   clear H;have H:=H1;clear H1
   by_cases c14 : 5 ≤ (t435.length : Int)
   ·rw [if_pos c14] at H;have c14b0:=eq_true c14;have c14b1 : decide (5 ≤ (t435.length : Int)) = true:=decide_eq_true c14;clear c14;obtain ⟨y443,hy443⟩ : ∃ y_ : List (S64),y_ = (t435.take (5 : Int).toNat):=⟨_,rfl⟩
    replace H : (some (t430,y443)) = some (r1,r2):=by (rw [hy443];with_reducible exact H)
    have Ny443:=am_ hy443;clear hy443;simp only [Option.some.injEq,Prod.mk.injEq] at H;obtain ⟨rfl,rfl⟩ := H
    go_enter Try.func14,Try.ntmps14
    go_wp2_with (first | ((with_reducible refine gate_dst (N:=9) rfl ?_);refine box_event ?hg (N:=9) ?hd (cs:=#[.slice A0 l0.length c0, .int .i64 0, .int .u64 0]) (t:=73) ?hr ?_;(case hd => rfl);(case hg => rfl);(case hr => (go_simp;done));intro gb426 hg w15 hbox hb;have n0_:=am_ (below_step (by exact HB.out) hb);have n1_:=am_ ((show IsS73 w _ gb426 l0 0 0 from ⟨_,_,hbox,(ge_ hg (by exact HB.out)),HR0.out⟩));clear HB;have HB:=n0_;have HI426:=n1_;clear n0_ n1_;clear hb hbox hg) | ((with_reducible refine gate_callee (f:=43) rfl ?_);refine goesL_ (some 12) rfl rfl Try.func43 (by kernel_rfl) rfl #[.pointer (some ⟨gb426,0,none⟩), .int .i64 8] rfl (by (try simp only [List.map_toArray,List.map_cons,List.map_nil]);rfl) ?_;(with_reducible refine (spec_l1Cur_pick.calls gb426 l0 0 0 8 t427 t428 t429 w _ ?side1 ?side2 A2.out).mono ?_);(case side1 => exact HI426.out);(case side2 => exact HB.out);rintro e w16 ⟨rfl,hi,hb,hk⟩;refine ⟨_,rfl, ?_⟩;have n0_:=am_ hb;have n1_:=am_ hi;clear HB;clear HI426;have HB:=n0_;have HI426:=n1_;clear n0_ n1_;(try clear hb);(try clear hk);(try clear hi)) | ((with_reducible refine gate_callee (f:=42) rfl ?_);refine goesL_ (some 15) rfl rfl Try.func42 (by kernel_rfl) rfl #[.pointer (some ⟨gb426,0,none⟩), .int .i64 (wrap64 (3 + (wrap64 (Int.tdiv t427 7))))] rfl (by (try simp only [List.map_toArray,List.map_cons,List.map_nil]);rfl) ?_;(with_reducible refine (spec_l1Cur_train.calls k gb426 l0 t428 t429 (wrap64 (3 + (wrap64 (Int.tdiv t427 7)))) t430 t433 t434 w _ ?side1 ?side2 A3.out).mono ?_);(case side1 => exact HI426.out);(case side2 => exact HB.out);rintro e w17 ⟨v431,rfl,ho0,hi,hb,hk⟩;refine ⟨_,rfl, ?_⟩;have n0_:=am_ (Kd.R_lower ho0 (below_size (by exact HB.out)));have n1_:=am_ hb;have n2_:=am_ hi;clear HB;clear HI426;have HO432:=n0_;have HB:=n1_;have HI426:=n2_;clear n0_ n1_ n2_;(try clear hb);(try clear hk);(try clear hi);(try clear ho0)) | ((with_reducible refine gate_callee (f:=44) rfl ?_);refine goesL_ (some 17) rfl rfl Try.func44 (by kernel_rfl) rfl #[.pointer (some ⟨gb426,0,none⟩)] rfl (by (try simp only [List.map_toArray,List.map_cons,List.map_nil]);rfl) ?_;(with_reducible refine (spec_l1Cur_containers.calls k gb426 l0 t433 t434 t435 t438 t439 w _ ?side1 ?side2 A4.out).mono ?_);(case side1 => exact HI426.out);(case side2 => exact HB.out);rintro e w18 ⟨v436,rfl,ho0,hi,hb,hk⟩;refine ⟨_,rfl, ?_⟩;have n0_:=am_ (Kd.R_mono (Kd.R_keep (IsS73.apart (show IsS73 w _ gb426 l0 t433 t434 from by exact HI426.out) (by exact HO432.out) (by decide)) hk (fun _ h => h.2)) (fun _ h => h.1));have n1_:=am_ (Kd.R_lower ho0 (below_size (by exact HB.out)));have n2_:=am_ hb;have n3_:=am_ hi;clear HO432;clear HB;clear HI426;have HO432:=n0_;have HO437:=n1_;have HB:=n2_;have HI426:=n3_;clear n0_ n1_ n2_ n3_;(try clear hb);(try clear hk);(try clear hi);(try clear ho0);obtain ⟨Ao19,co19,eo19⟩ := Kd.R_slice HO437.out;subst eo19) | (go_at_call 45;(with_reducible refine (spec_l1Cur_one.calls gb426 l0 t438 t439 12 false t441 t442 w _ ?side1 ?side2 A6.out).mono ?_);(case side1 => exact HI426.out);(case side2 => exact HB.out);rintro e w20 ⟨rfl,hi,hb,hk⟩;have n0_:=am_ (Kd.R_mono (Kd.R_keep (IsS73.apart (show IsS73 w _ gb426 l0 t438 t439 from by exact HI426.out) (by exact HO432.out) (by decide)) hk (fun _ h => h.2)) (fun _ h => h.1));have n1_:=am_ (Kd.R_mono (Kd.R_keep (IsS73.apart (show IsS73 w _ gb426 l0 t438 t439 from by exact HI426.out) (by exact HO437.out) (by decide)) hk (fun _ h => h.2)) (fun _ h => h.1));have n2_:=am_ hb;have n3_:=am_ hi;clear HO432;clear HO437;clear HB;clear HI426;have HO432:=n0_;have HO437:=n1_;have HB:=n2_;have HI426:=n3_;clear n0_ n1_ n2_ n3_;(try clear hb);(try clear hk);(try clear hi);have q21 : (5 : Int) ≤ ((t435.length : Int) : Int):=of_decide_eq_true (by (with_reducible assumption));obtain ⟨i021,hi021,_,hsz21,_⟩ := info_parts info64;have hcut21:=cut_to (P:=Try.prog) 30 64 .i64 Try.underlying30 hi021 Ao19 t435.length co19 5 (by omega) q21 (Kd.R_reads' HO437.out).2.1;have hr21:=Kd.R_take (m:=(5 : Int).toNat) HO437.out (by omega);have hy21 : y443.length = (5 : Int).toNat:=(by rw [Ny443.out,List.length_take];omega);rw [← Ny443.out] at hr21;rw [← hy21] at hr21 hcut21;clear hy21 hi021 hsz21 HO437;have HO445:=am_ hr21;clear hr21;replace q21:=eq_true q21))
    go_ret2
    exact ⟨_,_,by rfl,by exact HO432.out,by exact HO445.out,by exact HB.out⟩
   ·rw [if_neg c14] at H
    exact absurd H (by simp)
 ·rw [if_neg c5] at H;have c5b0 : decide (5 < (t435.length : Int)) = false:=decide_eq_false c5;have c5b1 : decide (5 < t435.length) = false:=decide_eq_false (by omega);clear c5;simp only [Option.some.injEq,Prod.mk.injEq] at H;obtain ⟨rfl,rfl⟩ := H
  go_enter Try.func14,Try.ntmps14
  go_wp2_with (first | ((with_reducible refine gate_dst (N:=9) rfl ?_);refine box_event ?hg (N:=9) ?hd (cs:=#[.slice A0 l0.length c0, .int .i64 0, .int .u64 0]) (t:=73) ?hr ?_;(case hd => rfl);(case hg => rfl);(case hr => (go_simp;done));intro gb426 hg w22 hbox hb;have n0_:=am_ (below_step (by exact HB.out) hb);have n1_:=am_ ((show IsS73 w _ gb426 l0 0 0 from ⟨_,_,hbox,(ge_ hg (by exact HB.out)),HR0.out⟩));clear HB;have HB:=n0_;have HI426:=n1_;clear n0_ n1_;clear hb hbox hg) | ((with_reducible refine gate_callee (f:=43) rfl ?_);refine goesL_ (some 12) rfl rfl Try.func43 (by kernel_rfl) rfl #[.pointer (some ⟨gb426,0,none⟩), .int .i64 8] rfl (by (try simp only [List.map_toArray,List.map_cons,List.map_nil]);rfl) ?_;(with_reducible refine (spec_l1Cur_pick.calls gb426 l0 0 0 8 t427 t428 t429 w _ ?side1 ?side2 A2.out).mono ?_);(case side1 => exact HI426.out);(case side2 => exact HB.out);rintro e w23 ⟨rfl,hi,hb,hk⟩;refine ⟨_,rfl, ?_⟩;have n0_:=am_ hb;have n1_:=am_ hi;clear HB;clear HI426;have HB:=n0_;have HI426:=n1_;clear n0_ n1_;(try clear hb);(try clear hk);(try clear hi)) | ((with_reducible refine gate_callee (f:=42) rfl ?_);refine goesL_ (some 15) rfl rfl Try.func42 (by kernel_rfl) rfl #[.pointer (some ⟨gb426,0,none⟩), .int .i64 (wrap64 (3 + (wrap64 (Int.tdiv t427 7))))] rfl (by (try simp only [List.map_toArray,List.map_cons,List.map_nil]);rfl) ?_;(with_reducible refine (spec_l1Cur_train.calls k gb426 l0 t428 t429 (wrap64 (3 + (wrap64 (Int.tdiv t427 7)))) t430 t433 t434 w _ ?side1 ?side2 A3.out).mono ?_);(case side1 => exact HI426.out);(case side2 => exact HB.out);rintro e w24 ⟨v431,rfl,ho0,hi,hb,hk⟩;refine ⟨_,rfl, ?_⟩;have n0_:=am_ (Kd.R_lower ho0 (below_size (by exact HB.out)));have n1_:=am_ hb;have n2_:=am_ hi;clear HB;clear HI426;have HO432:=n0_;have HB:=n1_;have HI426:=n2_;clear n0_ n1_ n2_;(try clear hb);(try clear hk);(try clear hi);(try clear ho0)) | ((with_reducible refine gate_callee (f:=44) rfl ?_);refine goesL_ (some 17) rfl rfl Try.func44 (by kernel_rfl) rfl #[.pointer (some ⟨gb426,0,none⟩)] rfl (by (try simp only [List.map_toArray,List.map_cons,List.map_nil]);rfl) ?_;(with_reducible refine (spec_l1Cur_containers.calls k gb426 l0 t433 t434 t435 t438 t439 w _ ?side1 ?side2 A4.out).mono ?_);(case side1 => exact HI426.out);(case side2 => exact HB.out);rintro e w25 ⟨v436,rfl,ho0,hi,hb,hk⟩;refine ⟨_,rfl, ?_⟩;have n0_:=am_ (Kd.R_mono (Kd.R_keep (IsS73.apart (show IsS73 w _ gb426 l0 t433 t434 from by exact HI426.out) (by exact HO432.out) (by decide)) hk (fun _ h => h.2)) (fun _ h => h.1));have n1_:=am_ (Kd.R_lower ho0 (below_size (by exact HB.out)));have n2_:=am_ hb;have n3_:=am_ hi;clear HO432;clear HB;clear HI426;have HO432:=n0_;have HO437:=n1_;have HB:=n2_;have HI426:=n3_;clear n0_ n1_ n2_ n3_;(try clear hb);(try clear hk);(try clear hi);(try clear ho0);obtain ⟨Ao26,co26,eo26⟩ := Kd.R_slice HO437.out;subst eo26))
  go_ret2
  exact ⟨_,_,by rfl,by exact HO432.out,by exact HO437.out,by exact HB.out⟩

/-! ### impl_LoadInOrder: function 15 -/
mutual
def impl_LoadInOrder.j0 : Nat → List (S54) → List (S64) → Bool → Option (List Int × Bool)
 | 0,_,_,_ => none
 | k + 1,x0,x1,x16 => if x16 = true then (some (([] : List Int),false)) else (impl_LoadInOrder.l0 k x0 x1 (([] : List Int)) (x1.length : Int) 0)
def impl_LoadInOrder.l0 : Nat → List (S54) → List (S64) → List Int → Int → Int → Option (List Int × Bool)
 | 0,_,_,_,_,_ => none
 | k + 1,x0,x1,x6,x19,x20 => if x20 < x19 then (impl_LoadInOrder.l1 k x0 x1 x6 (-1) x19 x20 (x0.length : Int) 0) else (some (x6,true))
def impl_LoadInOrder.l1 : Nat → List (S54) → List (S64) → List Int → Int → Int → Int → Int → Int → Option (List Int × Bool)
 | 0,_,_,_,_,_,_,_,_ => none
 | k + 1,x0,x1,x6,x7,x19,x20,x23,x24 => if x24 < x23 then (if x7 < 0 then ((slices_Clone_int.f x6).bind fun t454 => (if t454.length < 17592186044416 then ((impl_isLoaded.f k x0 x1 (t454 ++ [x24])).bind fun t460 => (if t460 = true then (impl_LoadInOrder.l1 k x0 x1 x6 x24 x19 x20 x23 (wrap64 (x24 + 1))) else (impl_LoadInOrder.l1 k x0 x1 x6 x7 x19 x20 x23 (wrap64 (x24 + 1))))) else (none))) else (impl_LoadInOrder.l1 k x0 x1 x6 x7 x19 x20 x23 (wrap64 (x24 + 1)))) else (if x6.length < 17592186044416 then (impl_LoadInOrder.l0 k x0 x1 (x6 ++ [x7]) x19 (wrap64 (x20 + 1))) else (none))
end
def impl_LoadInOrder.f (k : Nat) (l0 : List (S54)) (l1 : List (S64)) : Option (List Int × Bool):=(impl_IsValidTrain.f k l0).bind fun t446 => (if t446 = true then ((impl_IsValidContainers.f k l1).bind fun t447 => (impl_LoadInOrder.j0 k l0 l1 (!t447))) else (impl_LoadInOrder.j0 k l0 l1 true))
theorem impl_LoadInOrder.mono_l : ∀ k,(∀ y0 y1 y2,LeO (impl_LoadInOrder.j0 k y0 y1 y2) (impl_LoadInOrder.j0 (k + 1) y0 y1 y2)) ∧ (∀ y0 y1 y2 y3 y4,LeO (impl_LoadInOrder.l0 k y0 y1 y2 y3 y4) (impl_LoadInOrder.l0 (k + 1) y0 y1 y2 y3 y4)) ∧ (∀ y0 y1 y2 y3 y4 y5 y6 y7,LeO (impl_LoadInOrder.l1 k y0 y1 y2 y3 y4 y5 y6 y7) (impl_LoadInOrder.l1 (k + 1) y0 y1 y2 y3 y4 y5 y6 y7))
 | 0 => ⟨fun _ _ _ r h => by simp [impl_LoadInOrder.j0] at h,fun _ _ _ _ _ r h => by simp [impl_LoadInOrder.l0] at h,fun _ _ _ _ _ _ _ _ r h => by simp [impl_LoadInOrder.l1] at h⟩
 | k + 1 => by
  obtain ⟨ih0,ih1,ih2⟩ := impl_LoadInOrder.mono_l k;refine ⟨?_, ?_, ?_⟩
  ·intro y0 y1 y2
   unfold impl_LoadInOrder.j0
   repeat' first
   | (with_reducible exact ih0 _ _ _)
   | (with_reducible exact ih1 _ _ _ _ _)
   | (with_reducible exact ih2 _ _ _ _ _ _ _ _)
   | (with_reducible exact impl_IsValidContainers.mono _ _)
   | (with_reducible exact impl_IsValidTrain.mono _ _)
   | (with_reducible exact impl_isLoaded.mono _ _ _ _)
   | (with_reducible exact LeO.refl _)
   | (with_reducible exact LeO.none _)
   | (with_reducible refine LeO.ite ?_ ?_)
   | (with_reducible refine LeO.bind ?_ (fun _ => ?_))
   | exact ih0 _ _ _
   | exact ih1 _ _ _ _ _
   | exact ih2 _ _ _ _ _ _ _ _
   | exact impl_IsValidContainers.mono _ _
   | exact impl_IsValidTrain.mono _ _
   | exact impl_isLoaded.mono _ _ _ _
   | exact LeO.none _
   | refine LeO.ite ?_ ?_
   | refine LeO.bind ?_ (fun _ => ?_)
  ·intro y0 y1 y2 y3 y4
   unfold impl_LoadInOrder.l0
   repeat' first
   | (with_reducible exact ih0 _ _ _)
   | (with_reducible exact ih1 _ _ _ _ _)
   | (with_reducible exact ih2 _ _ _ _ _ _ _ _)
   | (with_reducible exact impl_IsValidContainers.mono _ _)
   | (with_reducible exact impl_IsValidTrain.mono _ _)
   | (with_reducible exact impl_isLoaded.mono _ _ _ _)
   | (with_reducible exact LeO.refl _)
   | (with_reducible exact LeO.none _)
   | (with_reducible refine LeO.ite ?_ ?_)
   | (with_reducible refine LeO.bind ?_ (fun _ => ?_))
   | exact ih0 _ _ _
   | exact ih1 _ _ _ _ _
   | exact ih2 _ _ _ _ _ _ _ _
   | exact impl_IsValidContainers.mono _ _
   | exact impl_IsValidTrain.mono _ _
   | exact impl_isLoaded.mono _ _ _ _
   | exact LeO.none _
   | refine LeO.ite ?_ ?_
   | refine LeO.bind ?_ (fun _ => ?_)
  ·intro y0 y1 y2 y3 y4 y5 y6 y7
   unfold impl_LoadInOrder.l1
   repeat' first
   | (with_reducible exact ih0 _ _ _)
   | (with_reducible exact ih1 _ _ _ _ _)
   | (with_reducible exact ih2 _ _ _ _ _ _ _ _)
   | (with_reducible exact impl_IsValidContainers.mono _ _)
   | (with_reducible exact impl_IsValidTrain.mono _ _)
   | (with_reducible exact impl_isLoaded.mono _ _ _ _)
   | (with_reducible exact LeO.refl _)
   | (with_reducible exact LeO.none _)
   | (with_reducible refine LeO.ite ?_ ?_)
   | (with_reducible refine LeO.bind ?_ (fun _ => ?_))
   | exact ih0 _ _ _
   | exact ih1 _ _ _ _ _
   | exact ih2 _ _ _ _ _ _ _ _
   | exact impl_IsValidContainers.mono _ _
   | exact impl_IsValidTrain.mono _ _
   | exact impl_isLoaded.mono _ _ _ _
   | exact LeO.none _
   | refine LeO.ite ?_ ?_
   | refine LeO.bind ?_ (fun _ => ?_)
theorem impl_LoadInOrder.mono : ∀ a0 a1 k,LeO (impl_LoadInOrder.f k a0 a1) (impl_LoadInOrder.f (k + 1) a0 a1):=by
 intro a0 a1 k;obtain ⟨ih0,ih1,ih2⟩ := impl_LoadInOrder.mono_l k
 unfold impl_LoadInOrder.f
 repeat' first
   | (with_reducible exact ih0 _ _ _)
   | (with_reducible exact ih1 _ _ _ _ _)
   | (with_reducible exact ih2 _ _ _ _ _ _ _ _)
   | (with_reducible exact impl_IsValidContainers.mono _ _)
   | (with_reducible exact impl_IsValidTrain.mono _ _)
   | (with_reducible exact impl_isLoaded.mono _ _ _ _)
   | (with_reducible exact LeO.refl _)
   | (with_reducible exact LeO.none _)
   | (with_reducible refine LeO.ite ?_ ?_)
   | (with_reducible refine LeO.bind ?_ (fun _ => ?_))
   | exact ih0 _ _ _
   | exact ih1 _ _ _ _ _
   | exact ih2 _ _ _ _ _ _ _ _
   | exact impl_IsValidContainers.mono _ _
   | exact impl_IsValidTrain.mono _ _
   | exact impl_isLoaded.mono _ _ _ _
   | exact LeO.none _
   | refine LeO.ite ?_ ?_
   | refine LeO.bind ?_ (fun _ => ?_)
set_option maxHeartbeats 8000000 in
set_option maxRecDepth 100000 in
theorem impl_LoadInOrder.calls (k : Nat) (A0 : Option Addr) (c0 : Nat) (l0 : List (S54)) (A1 : Option Addr) (c1 : Nat) (l1 : List (S64)) (r1 : List Int) (r2 : Bool) (w : World) (hr0 : Kd.C k54 w A0 l0.length l0) (hc0 : l0.length ≤ c0) (hr1 : Kd.C k64 w A1 l1.length l1) (hc1 : l1.length ≤ c1) (h : impl_LoadInOrder.f k l0 l1 = some (r1,r2)) :
  Calls Try.prog 15 #[.slice A0 l0.length c0, .slice A1 l1.length c1] w fun e w' => ∃ v0_ : Value,e = .returned (.tuple #[v0_, .bool r2]) ∧ Kd.R (Kd.int .i64) 3 w' w.heap.size (fun _ => True) v0_ r1 ∧ Below w.heap.size w w':=by
 have HR0:=am_ hr0;have HC0:=am_ hc0;clear hr0 hc0;have HR1:=am_ hr1;have HC1:=am_ hc1;clear hr1 hc1;have HB:=am_ (Below.refl w.heap.size w);have H : ((impl_IsValidTrain.f k l0).bind fun t446 => (if t446 = true then ((impl_IsValidContainers.f k l1).bind fun t447 => (impl_LoadInOrder.j0 k l0 l1 (!t447))) else (impl_LoadInOrder.j0 k l0 l1 true))) = some (r1,r2):=h;clear h;have HC3:=am_ H;clear H
 go_enter Try.func15,Try.ntmps15
 go_upto_region 1 with (fail)
 go_cut [16] (fun v16 wc => ∃ (kq : Nat) (x16_2 : Bool),v16 = .bool x16_2 ∧ Aside0 (impl_LoadInOrder.j0 kq l0 l1 x16_2 = some (r1,r2)) ∧ Aside0 (kq ≤ k) ∧ Aside0 (Below w.heap.size w wc))
 case first =>
  have H:=HC3.out;clear HC3;replace H:=Option.bind_eq_some_iff.mp H;obtain ⟨t446,A40,H⟩ := H;replace H : (if t446 = true then ((impl_IsValidContainers.f k l1).bind fun t447 => (impl_LoadInOrder.j0 k l0 l1 (!t447))) else (impl_LoadInOrder.j0 k l0 l1 true)) = some (r1,r2):=H;have A4:=am_ A40;clear A40
  by_cases c5 : t446 = true
  ·subst c5
   have H1 : ((impl_IsValidContainers.f k l1).bind fun t447 => (impl_LoadInOrder.j0 k l0 l1 (!t447))) = some (r1,r2):=by rw [if_pos rfl] at H;exact H
   clear H;have H:=H1;clear H1;replace H:=Option.bind_eq_some_iff.mp H;obtain ⟨t447,A60,H⟩ := H;replace H : (impl_LoadInOrder.j0 k l0 l1 (!t447)) = some (r1,r2):=H;have A6:=am_ A60;clear A60;have H':=am_ H;clear H
   go_wp2_with (first | ((with_reducible refine gate_callee (f:=20) rfl ?_);refine goesL_ (some 10) rfl rfl Try.func20 (by kernel_rfl) rfl #[.slice A0 l0.length c0] rfl (by (try simp only [List.map_toArray,List.map_cons,List.map_nil]);rfl) ?_;(with_reducible refine (impl_IsValidTrain.calls k _ _ l0 true _ ?side1 ?side2 A4.out).mono ?_);(case side1 => repeat (exact (Kd.C_below HR0.out HB.out)));(case side2 => exact HC0.out);rintro e w7 ⟨rfl,hb⟩;refine ⟨_,rfl, ?_⟩;have n0_:=am_ (below_step (by exact HB.out) hb);clear HB;have HB:=n0_;clear n0_;(try clear hb)) | (go_at_call 36;(with_reducible refine (impl_IsValidContainers.calls k _ _ l1 t447 _ ?side1 ?side2 A6.out).mono ?_);(case side1 => repeat (exact (Kd.C_below HR1.out HB.out)));(case side2 => exact HC1.out);rintro e w8 ⟨rfl,hb⟩;have n0_:=am_ (below_step (by exact HB.out) hb);clear HB;have HB:=n0_;clear n0_;(try clear hb)))
   go_meet
   case rel => exact ⟨_,(!t447),(by rfl),H',⟨by omega⟩,⟨by exact HB.out⟩⟩
  ·replace c5:=Bool.eq_false_iff.mpr c5;subst c5
   have H1 : (impl_LoadInOrder.j0 k l0 l1 true) = some (r1,r2):=by rw [if_neg (show ¬ (false = true) by decide)] at H;exact H
   clear H;have H:=H1;clear H1;have H':=am_ H;clear H
   go_wp2_with (((with_reducible refine gate_callee (f:=20) rfl ?_);refine goesL_ (some 10) rfl rfl Try.func20 (by kernel_rfl) rfl #[.slice A0 l0.length c0] rfl (by (try simp only [List.map_toArray,List.map_cons,List.map_nil]);rfl) ?_;(with_reducible refine (impl_IsValidTrain.calls k _ _ l0 false _ ?side1 ?side2 A4.out).mono ?_);(case side1 => repeat (exact (Kd.C_below HR0.out HB.out)));(case side2 => exact HC0.out);rintro e w9 ⟨rfl,hb⟩;refine ⟨_,rfl, ?_⟩;have n0_:=am_ (below_step (by exact HB.out) hb);clear HB;have HB:=n0_;clear n0_;(try clear hb)))
   go_meet
   case rel => exact ⟨_,(true),(by rfl),H',⟨by omega⟩,⟨by exact HB.out⟩⟩
 case rest =>
  clear HC3;(try clear c1);(try clear c2);(try clear p2);(try clear c5);obtain ⟨kq,x16_2,rfl,HA,HJ2,HB⟩ := hcut
  cases kq with
  | zero => exact absurd HA.out (by simp [impl_LoadInOrder.j0])
  | succ kj2 =>
   have H:=HA.out;clear HA;simp only [impl_LoadInOrder.j0] at H
   by_cases c10 : x16_2 = true
   ·subst c10
    have H1 : (some (([] : List Int),false)) = some (r1,r2):=by rw [if_pos rfl] at H;exact H
    clear H;have H:=H1;clear H1;simp only [Option.some.injEq,Prod.mk.injEq] at H;obtain ⟨rfl,rfl⟩ := H
    go_wp2
    go_ret2
    exact ⟨_,by rfl,by exact Kd.R_nil _ _ _ _ _,by exact HB.out⟩
   ·replace c10:=Bool.eq_false_iff.mpr c10;subst c10
    have H1 : (impl_LoadInOrder.l0 kj2 l0 l1 (([] : List Int)) (l1.length : Int) 0) = some (r1,r2):=by rw [if_neg (show ¬ (false = true) by decide)] at H;exact H
    clear H;have H:=H1;clear H1;obtain ⟨y448,hy448⟩ : ∃ y_ : List Int,y_ = (([] : List Int)):=⟨_,rfl⟩
    replace H : (impl_LoadInOrder.l0 kj2 l0 l1 y448 (l1.length : Int) 0) = some (r1,r2):=by (rw [hy448];with_reducible exact H)
    have Ny448:=am_ hy448;clear hy448;have H':=am_ H;clear H
    go_wp2_with (((with_reducible refine gate_dst (N:=17) rfl ?_);(try (refine gate_guard (by rfl) ?_;dsimp only));refine Kd.R_lit (Kd.int .i64) _ 3 ?hg (N:=17) ?hd (xs:=([] : List Int)) (inner := []) (ok:=fun _ => True) (okp:=fun _ => True) ?hr ?hp (fun _ hk => hk) trivial (Below.refl _ _) (Nat.le_refl _) (by simp) ?_;(case hd => rfl);(case hg => rfl);(case hr => (go_simp;done));(case hp => exact (Reps.none _ _));intro v449 w11 ho12 hb hg_ hnew_;clear hg_ hnew_;(rw [← Ny448.out] at ho12);have n0_:=am_ (Kd.R_lower ho12 (below_size (by exact HB.out)));have n1_:=am_ (below_step (by exact HB.out) hb);clear HB;have HO450:=n0_;have HB:=n1_;clear n0_ n1_;clear hb ho12))
    (skip)
    go_loopg [6,20] kj2 (fun kq v6 v20 w' => ∃ (x6_2 : List Int) (x20_2 : Int),v20 = .int .i64 x20_2 ∧ Aside0 (impl_LoadInOrder.l0 kq l0 l1 x6_2 (l1.length : Int) x20_2 = some (r1,r2)) ∧ Aside0 (kq ≤ kj2) ∧ Aside0 (Kd.R (Kd.int .i64) 3 w' w.heap.size (fun _ => True) v6 x6_2) ∧ Aside0 (Below w.heap.size w w'))
    case atStart => exact ⟨(y448),(0),(by rfl),H',⟨Nat.le_refl _⟩,⟨by exact HO450.out⟩,⟨by exact HB.out⟩⟩
    case round =>
     clear H';(try clear c1);(try clear c2);(try clear p2);(try clear c5);(try clear c10);(try clear p2);obtain ⟨x6_2,x20_2,rfl,HA,HK2,HO_6,HB⟩ := hrel
     cases gk with
     | zero => exact absurd HA.out (by simp [impl_LoadInOrder.l0])
     | succ k2 =>
      have H:=HA.out;clear HA;simp only [impl_LoadInOrder.l0] at H
      by_cases c13 : x20_2 < (l1.length : Int)
      ·rw [if_pos c13] at H;have c13b0 : decide (x20_2 < (l1.length : Int)) = true:=decide_eq_true c13;clear c13;have H':=am_ H;clear H
       go_wp2
       (skip)
       go_loopg [7,24] k2 (fun kq v7 v24 w' => ∃ (x7_3 : Int) (x24_3 : Int),v7 = .int .i64 x7_3 ∧ v24 = .int .i64 x24_3 ∧ Aside0 (impl_LoadInOrder.l1 kq l0 l1 x6_2 x7_3 (l1.length : Int) x20_2 (l0.length : Int) x24_3 = some (r1,r2)) ∧ Aside0 (kq ≤ k2) ∧ Aside0 (Kd.R (Kd.int .i64) 3 w' w.heap.size (fun _ => True) u6 x6_2) ∧ Aside0 (Below w.heap.size w w'))
       case atStart => exact ⟨((-1)),(0),(by rfl),(by rfl),H',⟨Nat.le_refl _⟩,⟨by exact HO_6.out⟩,⟨by exact HB.out⟩⟩
       case round =>
        clear H';(try clear c1);(try clear c2);(try clear p2);(try clear c5);(try clear c10);(try clear c13);(try clear c13b0);(try clear p2);obtain ⟨x7_3,x24_3,rfl,rfl,HA,HK3,HO_6,HB⟩ := hrel
        cases gk with
        | zero => exact absurd HA.out (by simp [impl_LoadInOrder.l1])
        | succ k3 =>
         have H:=HA.out;clear HA;simp only [impl_LoadInOrder.l1] at H
         by_cases c14 : x24_3 < (l0.length : Int)
         ·rw [if_pos c14] at H;have c14b0 : decide (x24_3 < (l0.length : Int)) = true:=decide_eq_true c14;clear c14
          by_cases c15 : x7_3 < 0
          ·rw [if_pos c15] at H;have c15b0 : decide (x7_3 < 0) = true:=decide_eq_true c15;clear c15;replace H:=Option.bind_eq_some_iff.mp H;obtain ⟨t454,A160,H⟩ := H;replace H : (if t454.length < 17592186044416 then ((impl_isLoaded.f k3 l0 l1 (t454 ++ [x24_3])).bind fun t460 => (if t460 = true then (impl_LoadInOrder.l1 k3 l0 l1 x6_2 x24_3 (l1.length : Int) x20_2 (l0.length : Int) (wrap64 (x24_3 + 1))) else (impl_LoadInOrder.l1 k3 l0 l1 x6_2 x7_3 (l1.length : Int) x20_2 (l0.length : Int) (wrap64 (x24_3 + 1))))) else (none)) = some (r1,r2):=H;have A16:=am_ A160;clear A160
           by_cases c17 : t454.length < 17592186044416
           ·rw [if_pos c17] at H;have LMc17:=am_ c17;clear c17;obtain ⟨y457,hy457⟩ : ∃ y_ : List Int,y_ = (t454 ++ [x24_3]):=⟨_,rfl⟩
            replace H : ((impl_isLoaded.f k3 l0 l1 y457).bind fun t460 => (if t460 = true then (impl_LoadInOrder.l1 k3 l0 l1 x6_2 x24_3 (l1.length : Int) x20_2 (l0.length : Int) (wrap64 (x24_3 + 1))) else (impl_LoadInOrder.l1 k3 l0 l1 x6_2 x7_3 (l1.length : Int) x20_2 (l0.length : Int) (wrap64 (x24_3 + 1))))) = some (r1,r2):=by (rw [hy457];with_reducible exact H)
            have Ny457:=am_ hy457;clear hy457;replace H:=Option.bind_eq_some_iff.mp H;obtain ⟨t460,A180,H⟩ := H;replace H : (if t460 = true then (impl_LoadInOrder.l1 k3 l0 l1 x6_2 x24_3 (l1.length : Int) x20_2 (l0.length : Int) (wrap64 (x24_3 + 1))) else (impl_LoadInOrder.l1 k3 l0 l1 x6_2 x7_3 (l1.length : Int) x20_2 (l0.length : Int) (wrap64 (x24_3 + 1)))) = some (r1,r2):=H;have A18:=am_ A180;clear A180
            by_cases c19 : t460 = true
            ·subst c19
             have H1 : (impl_LoadInOrder.l1 k3 l0 l1 x6_2 x24_3 (l1.length : Int) x20_2 (l0.length : Int) (wrap64 (x24_3 + 1))) = some (r1,r2):=by rw [if_pos rfl] at H;exact H
             clear H;have H:=H1;clear H1;have H':=am_ H;clear H;obtain ⟨Ao20,co20,eo20⟩ := Kd.R_slice HO_6.out;subst eo20
             go_wp2_with (first | (go_at_call 46;(with_reducible refine (slices_Clone_int.calls _ _ x6_2 t454 _ ?side1 ?side2 A16.out).mono ?_);(case side1 => repeat (exact (Kd.R_reads' HO_6.out).2.2));(case side2 => exact (Kd.R_reads' HO_6.out).2.1);rintro e w21 ⟨v455,rfl,ho0,hb⟩;have n0_:=am_ (Kd.R_elder' (by exact HO_6.out) (Kd.R_base ho0) hb);have n1_:=am_ (Kd.R_lower (Kd.R_new' ho0 (Kd.R_lt (by exact HO_6.out))) (below_size (by exact HB.out)));have n2_:=am_ (below_step (by exact HB.out) hb);clear HO_6;clear HB;have HO_6:=n0_;have HO456:=n1_;have HB:=n2_;clear n0_ n1_ n2_;(try clear hb);(try clear ho0)) | ((with_reducible refine gate_builtin (b := .append) (xs:=#[.tmp 33, .tmp 35]) rfl ?_);(try (refine gate_guard (by rfl) ?_;dsimp only));at_builtin;refine Kd.R_append (Kd.int .i64) (w0:=w) w.heap.size rfl (.tmp 33) (.tmp 35) 39 3 (.int .i64 0) 8 rfl Try.underlying39 info3 rfl (by decide) (by omega) v455 t454 x24_3 [.int .i64 x24_3] (fun k_ => some k_ ≠ (.slice Ao20 x6_2.length co20 : Value).ownBlock) (fun _ => False) rfl rfl ?aP (fun _ hk => hk.elim) ?aF ?aO ?aB ?aS ?aL ?_;(case aP => exact rfl);(case aB => exact (by exact HB.out));(case aF => exact (fun k_ hk => Kd.fresh' (Kd.R_lt (by exact HO_6.out)) k_ hk));(case aO => exact (by exact Kd.R_mono HO456.out (fun _ hk => hk.2)));(case aS => exact (below_size (by exact HB.out)));(case aL => have:=LMc17.out;omega);intro v458 w22 ho hb hg hat;rw [← Ny457.out] at ho;have n0_:=am_ (Kd.R_after (ok:=(fun _ => True)) (by exact HO_6.out) hg hat);have n1_:=am_ hb;have n2_:=am_ (ho);clear HO_6;clear HB;clear HO456;have HO_6:=n0_;have HB:=n1_;have HO459:=n2_;clear n0_ n1_ n2_;clear ho hb hg hat;obtain ⟨Ao23,co23,eo23⟩ := Kd.R_slice HO459.out;subst eo23) | (go_at_call 39;(with_reducible refine (impl_isLoaded.calls k3 _ _ l0 _ _ l1 _ _ y457 true _ ?side1 ?side2 ?side3 ?side4 ?side5 ?side6 A18.out).mono ?_);(case side1 => repeat (exact (Kd.C_below HR0.out HB.out)));(case side2 => exact HC0.out);(case side3 => repeat (exact (Kd.C_below HR1.out HB.out)));(case side4 => exact HC1.out);(case side5 => repeat (exact (Kd.R_reads' HO459.out).2.2));(case side6 => exact (Kd.R_reads' HO459.out).2.1);rintro e w24 ⟨rfl,hb⟩;have n0_:=am_ (Kd.R_below (by exact HO_6.out) hb);have n1_:=am_ (Kd.R_below (by exact HO459.out) hb);have n2_:=am_ (below_step (by exact HB.out) hb);clear HO_6;clear HO459;clear HB;have HO_6:=n0_;have HO459:=n1_;have HB:=n2_;clear n0_ n1_ n2_;(try clear hb)))
             go_roundg k3
             case measure => have:=HJ2.out;have:=HK2.out;have:=HK3.out;omega
             case rel => exact ⟨(x24_3),(wrap64 (x24_3 + 1)),(by rfl),(by rfl),H',⟨by have:=HJ2.out;have:=HK2.out;have:=HK3.out;omega⟩,⟨by exact Kd.R_mono HO_6.out (fun _ hk => trivial)⟩,⟨by exact HB.out⟩⟩
            ·replace c19:=Bool.eq_false_iff.mpr c19;subst c19
             have H1 : (impl_LoadInOrder.l1 k3 l0 l1 x6_2 x7_3 (l1.length : Int) x20_2 (l0.length : Int) (wrap64 (x24_3 + 1))) = some (r1,r2):=by rw [if_neg (show ¬ (false = true) by decide)] at H;exact H
             clear H;have H:=H1;clear H1;have H':=am_ H;clear H;obtain ⟨Ao25,co25,eo25⟩ := Kd.R_slice HO_6.out;subst eo25
             go_wp2_with (first | (go_at_call 46;(with_reducible refine (slices_Clone_int.calls _ _ x6_2 t454 _ ?side1 ?side2 A16.out).mono ?_);(case side1 => repeat (exact (Kd.R_reads' HO_6.out).2.2));(case side2 => exact (Kd.R_reads' HO_6.out).2.1);rintro e w26 ⟨v455,rfl,ho0,hb⟩;have n0_:=am_ (Kd.R_elder' (by exact HO_6.out) (Kd.R_base ho0) hb);have n1_:=am_ (Kd.R_lower (Kd.R_new' ho0 (Kd.R_lt (by exact HO_6.out))) (below_size (by exact HB.out)));have n2_:=am_ (below_step (by exact HB.out) hb);clear HO_6;clear HB;have HO_6:=n0_;have HO456:=n1_;have HB:=n2_;clear n0_ n1_ n2_;(try clear hb);(try clear ho0)) | ((with_reducible refine gate_builtin (b := .append) (xs:=#[.tmp 33, .tmp 35]) rfl ?_);(try (refine gate_guard (by rfl) ?_;dsimp only));at_builtin;refine Kd.R_append (Kd.int .i64) (w0:=w) w.heap.size rfl (.tmp 33) (.tmp 35) 39 3 (.int .i64 0) 8 rfl Try.underlying39 info3 rfl (by decide) (by omega) v455 t454 x24_3 [.int .i64 x24_3] (fun k_ => some k_ ≠ (.slice Ao25 x6_2.length co25 : Value).ownBlock) (fun _ => False) rfl rfl ?aP (fun _ hk => hk.elim) ?aF ?aO ?aB ?aS ?aL ?_;(case aP => exact rfl);(case aB => exact (by exact HB.out));(case aF => exact (fun k_ hk => Kd.fresh' (Kd.R_lt (by exact HO_6.out)) k_ hk));(case aO => exact (by exact Kd.R_mono HO456.out (fun _ hk => hk.2)));(case aS => exact (below_size (by exact HB.out)));(case aL => have:=LMc17.out;omega);intro v458 w27 ho hb hg hat;rw [← Ny457.out] at ho;have n0_:=am_ (Kd.R_after (ok:=(fun _ => True)) (by exact HO_6.out) hg hat);have n1_:=am_ hb;have n2_:=am_ (ho);clear HO_6;clear HB;clear HO456;have HO_6:=n0_;have HB:=n1_;have HO459:=n2_;clear n0_ n1_ n2_;clear ho hb hg hat;obtain ⟨Ao28,co28,eo28⟩ := Kd.R_slice HO459.out;subst eo28) | (go_at_call 39;(with_reducible refine (impl_isLoaded.calls k3 _ _ l0 _ _ l1 _ _ y457 false _ ?side1 ?side2 ?side3 ?side4 ?side5 ?side6 A18.out).mono ?_);(case side1 => repeat (exact (Kd.C_below HR0.out HB.out)));(case side2 => exact HC0.out);(case side3 => repeat (exact (Kd.C_below HR1.out HB.out)));(case side4 => exact HC1.out);(case side5 => repeat (exact (Kd.R_reads' HO459.out).2.2));(case side6 => exact (Kd.R_reads' HO459.out).2.1);rintro e w29 ⟨rfl,hb⟩;have n0_:=am_ (Kd.R_below (by exact HO_6.out) hb);have n1_:=am_ (Kd.R_below (by exact HO459.out) hb);have n2_:=am_ (below_step (by exact HB.out) hb);clear HO_6;clear HO459;clear HB;have HO_6:=n0_;have HO459:=n1_;have HB:=n2_;clear n0_ n1_ n2_;(try clear hb)))
             go_roundg k3
             case measure => have:=HJ2.out;have:=HK2.out;have:=HK3.out;omega
             case rel => exact ⟨(x7_3),(wrap64 (x24_3 + 1)),(by rfl),(by rfl),H',⟨by have:=HJ2.out;have:=HK2.out;have:=HK3.out;omega⟩,⟨by exact Kd.R_mono HO_6.out (fun _ hk => trivial)⟩,⟨by exact HB.out⟩⟩
           ·rw [if_neg c17] at H
            exact absurd H (by simp)
          ·rw [if_neg c15] at H;have c15b0 : decide (x7_3 < 0) = false:=decide_eq_false c15;clear c15;have H':=am_ H;clear H
           go_wp2
           go_roundg k3
           case measure => have:=HJ2.out;have:=HK2.out;have:=HK3.out;omega
           case rel => exact ⟨(x7_3),(wrap64 (x24_3 + 1)),(by rfl),(by rfl),H',⟨by have:=HJ2.out;have:=HK2.out;have:=HK3.out;omega⟩,⟨by exact HO_6.out⟩,⟨by exact HB.out⟩⟩
         ·rw [if_neg c14] at H;have c14b0 : decide (x24_3 < (l0.length : Int)) = false:=decide_eq_false c14;clear c14
          by_cases c30 : x6_2.length < 17592186044416
          ·rw [if_pos c30] at H;have LMc30:=am_ c30;clear c30;obtain ⟨y451,hy451⟩ : ∃ y_ : List Int,y_ = (x6_2 ++ [x7_3]):=⟨_,rfl⟩
           replace H : (impl_LoadInOrder.l0 k3 l0 l1 y451 (l1.length : Int) (wrap64 (x20_2 + 1))) = some (r1,r2):=by (rw [hy451];with_reducible exact H)
           have Ny451:=am_ hy451;clear hy451;have H':=am_ H;clear H
           go_wp2_with (((with_reducible refine gate_builtin (b := .append) (xs:=#[.tmp 41, .tmp 43]) rfl ?_);(try (refine gate_guard (by rfl) ?_;dsimp only));at_builtin;refine Kd.R_append (Kd.int .i64) (w0:=w) w.heap.size rfl (.tmp 41) (.tmp 43) 39 3 (.int .i64 0) 8 rfl Try.underlying39 info3 rfl (by decide) (by omega) u6 x6_2 x7_3 [.int .i64 x7_3] (fun _ => True) (fun _ => False) rfl rfl ?aP (fun _ hk => hk.elim) ?aF ?aO ?aB ?aS ?aL ?_;(case aP => exact rfl);(case aB => exact (by exact HB.out));(case aF => exact (fun _ _ => trivial));(case aO => exact (by exact HO_6.out));(case aS => exact (below_size (by exact HB.out)));(case aL => have:=LMc30.out;omega);intro v452 w31 ho hb hg hat;rw [← Ny451.out] at ho;have n0_:=am_ hb;have n1_:=am_ (ho);clear HB;clear HO_6;have HB:=n0_;have HO453:=n1_;clear n0_ n1_;clear ho hb hg hat))
           go_roundg k3
           case measure => have:=HJ2.out;have:=HK2.out;have:=HK3.out;omega
           case rel => exact ⟨(y451),(wrap64 (x20_2 + 1)),(by rfl),H',⟨by have:=HJ2.out;have:=HK2.out;have:=HK3.out;omega⟩,⟨by exact HO453.out⟩,⟨by exact HB.out⟩⟩
          ·rw [if_neg c30] at H
           exact absurd H (by simp)
      ·rw [if_neg c13] at H;have c13b0 : decide (x20_2 < (l1.length : Int)) = false:=decide_eq_false c13;clear c13;simp only [Option.some.injEq,Prod.mk.injEq] at H;obtain ⟨rfl,rfl⟩ := H
       go_wp2
       go_ret2
       exact ⟨_,by rfl,by exact HO_6.out,by exact HB.out⟩

end Go.Proofs.Ythbibjfnmljpkaa.PFnTrainLoading
