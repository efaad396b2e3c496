-- Written by a program of this session, over the kit's print (wip/xprint.py)
import Derived.Test.YtafdafmoiocjgaaPFnChargesx0
import Derived.Test.YtafdafmoiocjgaaPFnChargesx1
namespace Go.Proofs.Ytafdafmoiocjgaa.PFnCharges
open Go.RowKit Go.Proofs.YtafdafmoiocjgaaW.PrintWords Go.Proofs.YtafdafmoiocjgaaW.PrintLast Go.Proofs.YtafdafmoiocjgaaW.PrintMore
attribute [local go_sem] max2_int min2_int max_two min_two max_three min_three max_four min_four   -- for this text's walks alone
set_option linter.unusedVariables false
set_option linter.unusedSimpArgs false

/-! ### spec_l1Cur_charge: function 43 -/
mutual
def spec_l1Cur_charge.l0 : Nat → Int → List Int → Int → Int → Int → List (S51) → Int → Option (Int × (List (S51)) × Int × Int × Int)
 | 0,_,_,_,_,_,_,_ => none
 | k + 1,x4,x1000,x1001,x1002,x126000,x126001,x126002 => if x4 > 0 then ((spec_l1Cur_among.f x1000 x1001 x1002 (([1,2,5,10,100] : List Int))).bind fun bt132 => ((spec_l1Cur_among.f x1000 bt132.2.1 bt132.2.2 (([0,1,33,300,10000] : List Int))).bind fun bt138 => (if x126001.length < 8796093022208 then (spec_l1Cur_charge.l0 k (wrap64 (x4 - 1)) x1000 bt138.2.1 bt138.2.2 x126000 (x126001 ++ [(⟨bt132.1,bt138.1⟩ : S51)]) x126002) else (none)))) else ((spec_l1Cur_pick.f x1000 x1001 x1002 (x126001.length : Int)).bind fun bt144 => (if 0 ≤ bt144.1 then (if bt144.1 < (x126001.length : Int) then ((spec_l1Cur_pick.f x1000 bt144.2.1 bt144.2.2 40).bind fun bt149 => (if bt149.1 = 0 then ((spec_l1Cur_among.f x1000 bt149.2.1 bt149.2.2 (([(-1),31] : List Int))).bind fun bt155 => (some (bt155.1,(x126001.set (bt144.1 : Int).toNat (⟨(rd_T51 x126001 bt144.1).f0,(rd_T51 x126001 bt144.1).f1⟩ : S51)),x126002,bt155.2.1,bt155.2.2))) else (if bt149.1 = 1 then ((spec_l1Cur_among.f x1000 bt149.2.1 bt149.2.2 (([99,301] : List Int))).bind fun bt162 => (some (x126000,(x126001.set (bt144.1 : Int).toNat (⟨(rd_T51 x126001 bt144.1).f0,(rd_T51 x126001 bt144.1).f1⟩ : S51)),bt162.1,bt162.2.1,bt162.2.2))) else (if bt149.1 = 2 then ((spec_l1Cur_among.f x1000 bt149.2.1 bt149.2.2 (([0,101] : List Int))).bind fun bt169 => (some (x126000,(x126001.set (bt144.1 : Int).toNat (⟨bt169.1,(rd_T51 x126001 bt144.1).f1⟩ : S51)),x126002,bt169.2.1,bt169.2.2))) else (if bt149.1 = 3 then ((spec_l1Cur_among.f x1000 bt149.2.1 bt149.2.2 (([(-1),10001] : List Int))).bind fun bt176 => (some (x126000,(x126001.set (bt144.1 : Int).toNat (⟨(rd_T51 x126001 bt144.1).f0,bt176.1⟩ : S51)),x126002,bt176.2.1,bt176.2.2))) else (if bt149.1 = 4 then (spec_l1Cur_charge.l1 k bt144.1 x1000 bt149.2.1 bt149.2.2 x126000 x126001 x126002 ((rd_T51 x126001 bt144.1).f0) ((rd_T51 x126001 bt144.1).f1)) else (some (x126000,(x126001.set (bt144.1 : Int).toNat (⟨(rd_T51 x126001 bt144.1).f0,(rd_T51 x126001 bt144.1).f1⟩ : S51)),x126002,bt149.2.1,bt149.2.2)))))))) else (none)) else (none)))
def spec_l1Cur_charge.l1 : Nat → Int → List Int → Int → Int → Int → List (S51) → Int → Int → Int → Option (Int × (List (S51)) × Int × Int × Int)
 | 0,_,_,_,_,_,_,_,_,_ => none
 | k + 1,x5,x1000,x1001,x1002,x126000,x126001,x126002,x149000,x149001 => (spec_l1Cur_pick.f x1000 x1001 x1002 2).bind fun bt180 => (if (x126001.length : Int) < (wrap64 (6 + bt180.1)) then (if x126001.length < 8796093022208 then (spec_l1Cur_charge.l1 k x5 x1000 bt180.2.1 bt180.2.2 x126000 (x126001 ++ [(⟨1,7⟩ : S51)]) x126002 x149000 x149001) else (none)) else (if 0 ≤ x5 then (if x5 < (x126001.length : Int) then (some (x126000,(x126001.set (x5 : Int).toNat (⟨x149000,x149001⟩ : S51)),x126002,bt180.2.1,bt180.2.2)) else (none)) else (none)))
end
def spec_l1Cur_charge.f (k : Nat) (s0_0 : List Int) (s0_1 : Int) (s0_2 : Int) : Option (Int × (List (S51)) × Int × Int × Int):=(spec_l1Cur_among.f s0_0 s0_1 s0_2 (([0,1,5,30] : List Int))).bind fun bt116 => ((spec_l1Cur_among.f s0_0 bt116.2.1 bt116.2.2 (([100,133,150,300] : List Int))).bind fun bt122 => ((spec_l1Cur_pick.f s0_0 bt122.2.1 bt122.2.2 4).bind fun bt126 => (spec_l1Cur_charge.l0 k (wrap64 (1 + bt126.1)) s0_0 bt126.2.1 bt126.2.2 bt116.1 ([] : List (S51)) bt122.1)))
theorem spec_l1Cur_charge.mono_l : ∀ k,(∀ y0 y1 y2 y3 y4 y5 y6,LeO (spec_l1Cur_charge.l0 k y0 y1 y2 y3 y4 y5 y6) (spec_l1Cur_charge.l0 (k + 1) y0 y1 y2 y3 y4 y5 y6)) ∧ (∀ y0 y1 y2 y3 y4 y5 y6 y7 y8,LeO (spec_l1Cur_charge.l1 k y0 y1 y2 y3 y4 y5 y6 y7 y8) (spec_l1Cur_charge.l1 (k + 1) y0 y1 y2 y3 y4 y5 y6 y7 y8))
 | 0 => ⟨fun _ _ _ _ _ _ _ r h => by simp [spec_l1Cur_charge.l0] at h,fun _ _ _ _ _ _ _ _ _ r h => by simp [spec_l1Cur_charge.l1] at h⟩
 | k + 1 => by
  obtain ⟨ih0,ih1⟩ := spec_l1Cur_charge.mono_l k
  refine ⟨?_, ?_⟩
  ·intro y0 y1 y2 y3 y4 y5 y6
   unfold spec_l1Cur_charge.l0
   repeat' first
   | (with_reducible exact ih0 _ _ _ _ _ _ _)
   | (with_reducible exact ih1 _ _ _ _ _ _ _ _ _)
   | (with_reducible exact LeO.refl _)
   | (with_reducible exact LeO.none _)
   | (with_reducible refine LeO.ite ?_ ?_)
   | (with_reducible refine LeO.bind ?_ (fun _ => ?_))
   | exact ih0 _ _ _ _ _ _ _
   | exact ih1 _ _ _ _ _ _ _ _ _
   | exact LeO.none _
   | refine LeO.ite ?_ ?_
   | refine LeO.bind ?_ (fun _ => ?_)
  ·intro y0 y1 y2 y3 y4 y5 y6 y7 y8
   unfold spec_l1Cur_charge.l1
   repeat' first
   | (with_reducible exact ih0 _ _ _ _ _ _ _)
   | (with_reducible exact ih1 _ _ _ _ _ _ _ _ _)
   | (with_reducible exact LeO.refl _)
   | (with_reducible exact LeO.none _)
   | (with_reducible refine LeO.ite ?_ ?_)
   | (with_reducible refine LeO.bind ?_ (fun _ => ?_))
   | exact ih0 _ _ _ _ _ _ _
   | exact ih1 _ _ _ _ _ _ _ _ _
   | exact LeO.none _
   | refine LeO.ite ?_ ?_
   | refine LeO.bind ?_ (fun _ => ?_)
theorem spec_l1Cur_charge.mono : ∀ a0 a1 a2 k,LeO (spec_l1Cur_charge.f k a0 a1 a2) (spec_l1Cur_charge.f (k + 1) a0 a1 a2):=by
 intro a0 a1 a2 k
 obtain ⟨ih0,ih1⟩ := spec_l1Cur_charge.mono_l k
 unfold spec_l1Cur_charge.f
 repeat' first
   | (with_reducible exact ih0 _ _ _ _ _ _ _)
   | (with_reducible exact ih1 _ _ _ _ _ _ _ _ _)
   | (with_reducible exact LeO.refl _)
   | (with_reducible exact LeO.none _)
   | (with_reducible refine LeO.ite ?_ ?_)
   | (with_reducible refine LeO.bind ?_ (fun _ => ?_))
   | exact ih0 _ _ _ _ _ _ _
   | exact ih1 _ _ _ _ _ _ _ _ _
   | exact LeO.none _
   | refine LeO.ite ?_ ?_
   | refine LeO.bind ?_ (fun _ => ?_)
def spec_l1Cur_charge.T5 : Bool × List (List Nat × List Nat):=(true,[([],[]),([0],[0]),([],[]),([],[]),([2,3],[2,3]),([],[]),([],[]),([5,6,4],[5,6]),([4,7],[4,7]),([8],[8]),([1,9,7],[1,9]),([0,1,2,3,4,5,6,7,8,9,10],[]),([11,10,10,0,1,2,3,4,5,6,7,8,9,10],[10,11])])
def spec_l1Cur_charge.B5 : List Nat := [0,1,0,0,12,0,0,124,252,508,1023,2047,4095]
theorem spec_l1Cur_charge.tab5 : rtab .any (opsOf Try.f43 5) = spec_l1Cur_charge.T5:=by kernel_rfl
theorem spec_l1Cur_charge.bits5 : waitsOk spec_l1Cur_charge.T5.2 spec_l1Cur_charge.B5 = true:=by kernel_rfl
set_option maxHeartbeats 8000000 in
set_option maxRecDepth 100000 in
theorem spec_l1Cur_charge.calls (k : Nat) (g : Nat) (s0_0 : List Int) (s0_1 : Int) (s0_2 : Int) (r1 : Int) (r2 : List (S51)) (r3 : Int) (r4 : Int) (r5 : Int) (w0 w : World) (hI : IsS58 w0 w g s0_0 s0_1 s0_2) (hB : Below w0.heap.size w0 w) (h : spec_l1Cur_charge.f k s0_0 s0_1 s0_2 = some (r1,r2,r3,r4,r5)) :
  Calls Try.prog 43 #[.pointer (some ⟨g,0,none⟩)] w fun e w' => ∃ v1_ : Value,e = .returned (.agg #[.int .i64 r1,v1_, .int .i64 r3]) ∧ Kd.R k51 51 w' w.heap.size (fun _ => True) v1_ r2 ∧ IsS58 w0 w' g s0_0 r4 r5 ∧ Below w0.heap.size w0 w' ∧ KeepBut w w' g none:=by
 have hu38:=Try.underlying38
 have hu51:=Try.underlying51
 have HI0:=Aside0.mk hI
 have HK:=Aside0.mk (KeepBut.refl w g none)
 have HL:=Aside0.mk hB.size
 clear hI
 have HW0:=Aside0.mk hB.size
 have HB:=Aside0.mk hB
 clear hB
 have H : ((spec_l1Cur_among.f s0_0 s0_1 s0_2 (([0,1,5,30] : List Int))).bind fun bt116 => ((spec_l1Cur_among.f s0_0 bt116.2.1 bt116.2.2 (([100,133,150,300] : List Int))).bind fun bt122 => ((spec_l1Cur_pick.f s0_0 bt122.2.1 bt122.2.2 4).bind fun bt126 => (spec_l1Cur_charge.l0 k (wrap64 (1 + bt126.1)) s0_0 bt126.2.1 bt126.2.2 bt116.1 ([] : List (S51)) bt122.1)))) = some (r1,r2,r3,r4,r5):=h
 clear h
 obtain ⟨y113,hy113⟩ : ∃ y_ : List Int,y_ = (([0,1,5,30] : List Int)):=⟨_,rfl⟩
 replace H : ((spec_l1Cur_among.f s0_0 s0_1 s0_2 y113).bind fun bt116 => ((spec_l1Cur_among.f s0_0 bt116.2.1 bt116.2.2 (([100,133,150,300] : List Int))).bind fun bt122 => ((spec_l1Cur_pick.f s0_0 bt122.2.1 bt122.2.2 4).bind fun bt126 => (spec_l1Cur_charge.l0 k (wrap64 (1 + bt126.1)) s0_0 bt126.2.1 bt126.2.2 bt116.1 ([] : List (S51)) bt122.1)))) = some (r1,r2,r3,r4,r5):=by (rw [hy113];with_reducible exact H)
 have Ny113:=Aside0.mk hy113
 clear hy113
 replace H:=Option.bind_eq_some_iff.mp H
 obtain ⟨⟨t116,t117,t118⟩,A20,H⟩ := H
 replace H : ((spec_l1Cur_among.f s0_0 t117 t118 (([100,133,150,300] : List Int))).bind fun bt122 => ((spec_l1Cur_pick.f s0_0 bt122.2.1 bt122.2.2 4).bind fun bt126 => (spec_l1Cur_charge.l0 k (wrap64 (1 + bt126.1)) s0_0 bt126.2.1 bt126.2.2 t116 ([] : List (S51)) bt122.1))) = some (r1,r2,r3,r4,r5):=H
 have A2:=Aside0.mk A20
 clear A20
 obtain ⟨y119,hy119⟩ : ∃ y_ : List Int,y_ = (([100,133,150,300] : List Int)):=⟨_,rfl⟩
 replace H : ((spec_l1Cur_among.f s0_0 t117 t118 y119).bind fun bt122 => ((spec_l1Cur_pick.f s0_0 bt122.2.1 bt122.2.2 4).bind fun bt126 => (spec_l1Cur_charge.l0 k (wrap64 (1 + bt126.1)) s0_0 bt126.2.1 bt126.2.2 t116 ([] : List (S51)) bt122.1))) = some (r1,r2,r3,r4,r5):=by (rw [hy119];with_reducible exact H)
 have Ny119:=Aside0.mk hy119
 clear hy119
 replace H:=Option.bind_eq_some_iff.mp H
 obtain ⟨⟨t122,t123,t124⟩,A30,H⟩ := H
 replace H : ((spec_l1Cur_pick.f s0_0 t123 t124 4).bind fun bt126 => (spec_l1Cur_charge.l0 k (wrap64 (1 + bt126.1)) s0_0 bt126.2.1 bt126.2.2 t116 ([] : List (S51)) t122)) = some (r1,r2,r3,r4,r5):=H
 have A3:=Aside0.mk A30
 clear A30
 replace H:=Option.bind_eq_some_iff.mp H
 obtain ⟨⟨t126,t127,t128⟩,A40,H⟩ := H
 replace H : (spec_l1Cur_charge.l0 k (wrap64 (1 + t126)) s0_0 t127 t128 t116 ([] : List (S51)) t122) = some (r1,r2,r3,r4,r5):=H
 have A4:=Aside0.mk A40
 clear A40
 have H':=Aside0.mk H
 clear H
 go_enter Try.func43,Try.ntmps43
 go_wp2_with (first | ((with_reducible refine gate_dst (N:=2) rfl ?_);refine box_event ?hg (N:=2) ?hd (cs:=#[.int .i64 0, .slice none 0 0, .int .i64 0]) (t:=38) ?hr ?_;(case hd => rfl);(case hg => rfl);(case hr => (go_simp;done));intro gb112 hg w5 hbox hb;have n0_:=Aside0.mk (IsS58.below (by exact HI0.out) hb);have n1_:=Aside0.mk (KeepBut.trans (by exact HK.out) (KeepBut.of_below hb g none) (.inl rfl));have n2_:=Aside0.mk (below_step (by exact HB.out) hb);have n3_:=Aside0.mk (hbox);have n4_:=Aside0.mk ((by rw [hg];exact (keep_size (w:=w) (g:=g) (row:=none) (by exact HK.out)) : w.heap.size ≤ gb112));have n5_:=Aside0.mk ((Nat.le_trans HW0.out (by rw [hg];exact (keep_size (w:=w) (g:=g) (row:=none) (by exact HK.out)) : w.heap.size ≤ gb112) : w0.heap.size ≤ gb112));have n6_:=Aside0.mk ((by rw [hg];exact Nat.ne_of_lt (IsS58.lt (show IsS58 w0 _ g s0_0 s0_1 s0_2 from by exact HI0.out)) : g ≠ gb112));have n7_:=Aside0.mk ((by rw [hg];exact Nat.ne_of_gt (IsS58.lt (show IsS58 w0 _ g s0_0 s0_1 s0_2 from by exact HI0.out)) : gb112 ≠ g));clear HI0;clear HK;clear HB;have HI0:=n0_;have HK:=n1_;have HB:=n2_;have BK112:=n3_;have GW112:=n4_;have GE112:=n5_;have NB0_112:=n6_;have NB112_0:=n7_;clear n0_ n1_ n2_ n3_ n4_ n5_ n6_ n7_;clear hb hbox hg) | ((with_reducible refine gate_dst (N:=8) rfl ?_);refine Kd.R_lit (Kd.int .i64) _ 3 ?hg (N:=8) ?hd (xs:=([0,1,5,30] : List Int)) (inner := [.int .i64 0, .int .i64 1, .int .i64 5, .int .i64 30]) (ok:=fun _ => True) (okp:=fun _ => True) ?hr ?hp (fun _ hk => hk) trivial (Below.refl _ _) (Nat.le_refl _) (by simp) ?_;(case hd => rfl);(case hg => rfl);(case hr => (go_simp;done));(case hp => exact (Reps.one (show Kd.M (Kd.int .i64) _ _ _ 0 [.int .i64 0] from rfl) (Reps.one (show Kd.M (Kd.int .i64) _ _ _ 1 [.int .i64 1] from rfl) (Reps.one (show Kd.M (Kd.int .i64) _ _ _ 5 [.int .i64 5] from rfl) (Reps.one (show Kd.M (Kd.int .i64) _ _ _ 30 [.int .i64 30] from rfl) (Reps.none _ _))))));intro v114 w6 ho7 hb hg_ hnew_;clear hg_ hnew_;(rw [← Ny113.out] at ho7);have n0_:=Aside0.mk (Kd.R_lower ho7 (keep_size (w:=w) (g:=g) (row:=none) (by exact HK.out)));have n1_:=Aside0.mk (IsS58.below (by exact HI0.out) hb);have n2_:=Aside0.mk (blk_below (g:=gb112) (o := .cells #[.int .i64 0, .slice none 0 0, .int .i64 0] 38 (0,0)) (by exact BK112.out) hb);have n3_:=Aside0.mk (KeepBut.trans (by exact HK.out) (KeepBut.of_below hb g none) (.inl rfl));have n4_:=Aside0.mk (below_step (by exact HB.out) hb);clear HI0;clear BK112;clear HK;clear HB;have HO115:=n0_;have HI0:=n1_;have BK112:=n2_;have HK:=n3_;have HB:=n4_;clear n0_ n1_ n2_ n3_ n4_;clear hb ho7;obtain ⟨Ao8,co8,eo8⟩ := Kd.R_slice HO115.out;subst eo8) | ((with_reducible refine gate_callee (f:=36) rfl ?_);refine goesL_ (some 9) rfl rfl Try.func36 (by kernel_rfl) rfl #[.pointer (some ⟨g,0,none⟩), .slice Ao8 y113.length co8] rfl (by (try simp only [List.map_toArray,List.map_cons,List.map_nil]);rfl) ?_;(with_reducible refine (spec_l1Cur_among.calls g s0_0 s0_1 s0_2 _ _ y113 t116 t117 t118 w0 _ ?side1 ?side2 ?side3 ?side4 ?side5 A2.out).mono ?_);(case side1 => exact HI0.out);(case side2 => exact HB.out);(case side3 => repeat (exact (Kd.R_reads' HO115.out).2.2));(case side4 => exact (Kd.R_reads' HO115.out).2.1);(case side5 => exact far_slice (IsS58.own_ne HI0.out HO115.out (by decide)));rintro e w9 ⟨rfl,hi,hb,hk⟩;refine ⟨_,rfl, ?_⟩;have n0_:=Aside0.mk (KeepBut.blk hk (g':=gb112) (o := .cells #[.int .i64 0, .slice none 0 0, .int .i64 0] 38 (0,0)) (by exact BK112.out) NB112_0.out (by simp));have n1_:=Aside0.mk (Kd.R_mono (Kd.R_keep (IsS58.apart (show IsS58 w0 _ g s0_0 s0_1 s0_2 from by exact HI0.out) (by exact HO115.out) (by decide)) hk (fun _ h => h.2)) (fun _ h => h.1));have n2_:=Aside0.mk (KeepBut.trans (by exact HK.out) hk (.inl rfl));have n3_:=Aside0.mk (hb);have n4_:=Aside0.mk (hi);clear BK112;clear HO115;clear HK;clear HB;clear HI0;have BK112:=n0_;have HO115:=n1_;have HK:=n2_;have HB:=n3_;have HI0:=n4_;clear n0_ n1_ n2_ n3_ n4_;(try clear hb);(try clear hk);(try clear hi)) | ((with_reducible refine gate_dst (N:=11) rfl ?_);refine Kd.R_lit (Kd.int .i64) _ 3 ?hg (N:=11) ?hd (xs:=([100,133,150,300] : List Int)) (inner := [.int .i64 100, .int .i64 133, .int .i64 150, .int .i64 300]) (ok:=fun _ => True) (okp:=fun _ => True) ?hr ?hp (fun _ hk => hk) trivial (Below.refl _ _) (Nat.le_refl _) (by simp) ?_;(case hd => rfl);(case hg => rfl);(case hr => (go_simp;done));(case hp => exact (Reps.one (show Kd.M (Kd.int .i64) _ _ _ 100 [.int .i64 100] from rfl) (Reps.one (show Kd.M (Kd.int .i64) _ _ _ 133 [.int .i64 133] from rfl) (Reps.one (show Kd.M (Kd.int .i64) _ _ _ 150 [.int .i64 150] from rfl) (Reps.one (show Kd.M (Kd.int .i64) _ _ _ 300 [.int .i64 300] from rfl) (Reps.none _ _))))));intro v120 w10 ho11 hb hg_ hnew_;clear hg_ hnew_;(rw [← Ny119.out] at ho11);have n0_:=Aside0.mk (Kd.R_elder' (by exact HO115.out) (Kd.R_base ho11) hb);have n1_:=Aside0.mk (Kd.R_lower (Kd.R_new' ho11 (Kd.R_lt (by exact HO115.out))) (keep_size (w:=w) (g:=g) (row:=none) (by exact HK.out)));have n2_:=Aside0.mk (IsS58.below (by exact HI0.out) hb);have n3_:=Aside0.mk (blk_below (g:=gb112) (o := .cells #[.int .i64 0, .slice none 0 0, .int .i64 0] 38 (0,0)) (by exact BK112.out) hb);have n4_:=Aside0.mk (KeepBut.trans (by exact HK.out) (KeepBut.of_below hb g none) (.inl rfl));have n5_:=Aside0.mk (below_step (by exact HB.out) hb);clear HO115;clear HI0;clear BK112;clear HK;clear HB;have HO115:=n0_;have HO121:=n1_;have HI0:=n2_;have BK112:=n3_;have HK:=n4_;have HB:=n5_;clear n0_ n1_ n2_ n3_ n4_ n5_;clear hb ho11;obtain ⟨Ao12,co12,eo12⟩ := Kd.R_slice HO121.out;subst eo12) | ((with_reducible refine gate_callee (f:=36) rfl ?_);refine goesL_ (some 12) rfl rfl Try.func36 (by kernel_rfl) rfl #[.pointer (some ⟨g,0,none⟩), .slice Ao12 y119.length co12] rfl (by (try simp only [List.map_toArray,List.map_cons,List.map_nil]);rfl) ?_;(with_reducible refine (spec_l1Cur_among.calls g s0_0 t117 t118 _ _ y119 t122 t123 t124 w0 _ ?side1 ?side2 ?side3 ?side4 ?side5 A3.out).mono ?_);(case side1 => exact HI0.out);(case side2 => exact HB.out);(case side3 => repeat (exact (Kd.R_reads' HO121.out).2.2));(case side4 => exact (Kd.R_reads' HO121.out).2.1);(case side5 => exact far_slice (IsS58.own_ne HI0.out HO121.out (by decide)));rintro e w13 ⟨rfl,hi,hb,hk⟩;refine ⟨_,rfl, ?_⟩;have n0_:=Aside0.mk (KeepBut.blk hk (g':=gb112) (o := .cells #[.int .i64 0, .slice none 0 0, .int .i64 0] 38 (0,0)) (by exact BK112.out) NB112_0.out (by simp));have n1_:=Aside0.mk (Kd.R_mono (Kd.R_keep (IsS58.apart (show IsS58 w0 _ g s0_0 t117 t118 from by exact HI0.out) (by exact HO115.out) (by decide)) hk (fun _ h => h.2)) (fun _ h => h.1));have n2_:=Aside0.mk (Kd.R_mono (Kd.R_keep (IsS58.apart (show IsS58 w0 _ g s0_0 t117 t118 from by exact HI0.out) (by exact HO121.out) (by decide)) hk (fun _ h => h.2)) (fun _ h => h.1));have n3_:=Aside0.mk (KeepBut.trans (by exact HK.out) hk (.inl rfl));have n4_:=Aside0.mk (hb);have n5_:=Aside0.mk (hi);clear BK112;clear HO115;clear HO121;clear HK;clear HB;clear HI0;have BK112:=n0_;have HO115:=n1_;have HO121:=n2_;have HK:=n3_;have HB:=n4_;have HI0:=n5_;clear n0_ n1_ n2_ n3_ n4_ n5_;(try clear hb);(try clear hk);(try clear hi)) | ((with_reducible refine gate_dst (N:=3) rfl ?_);refine box_event ?hg (N:=3) ?hd (cs:=#[.int .i64 0, .slice none 0 0, .int .i64 0]) (t:=38) ?hr ?_;(case hd => rfl);(case hg => rfl);(case hr => (go_simp;done));intro gb125 hg w14 hbox hb;have n0_:=Aside0.mk (Kd.R_below (by exact HO115.out) hb);have n1_:=Aside0.mk (Kd.R_below (by exact HO121.out) hb);have n2_:=Aside0.mk (IsS58.below (by exact HI0.out) hb);have n3_:=Aside0.mk (blk_below (g:=gb112) (o := .cells #[.int .i64 0, .slice none 0 0, .int .i64 0] 38 (0,0)) (by exact BK112.out) hb);have n4_:=Aside0.mk (KeepBut.trans (by exact HK.out) (KeepBut.of_below hb g none) (.inl rfl));have n5_:=Aside0.mk (below_step (by exact HB.out) hb);have n6_:=Aside0.mk (hbox);have n7_:=Aside0.mk ((by rw [hg];exact (keep_size (w:=w) (g:=g) (row:=none) (by exact HK.out)) : w.heap.size ≤ gb125));have n8_:=Aside0.mk ((Nat.le_trans HW0.out (by rw [hg];exact (keep_size (w:=w) (g:=g) (row:=none) (by exact HK.out)) : w.heap.size ≤ gb125) : w0.heap.size ≤ gb125));have n9_:=Aside0.mk ((by rw [hg];exact Nat.ne_of_lt (blk_lt (g:=gb112) (o := .cells #[.int .i64 0, .slice none 0 0, .int .i64 0] 38 (0,0)) (by exact BK112.out)) : gb112 ≠ gb125));have n10_:=Aside0.mk ((by rw [hg];exact Nat.ne_of_gt (blk_lt (g:=gb112) (o := .cells #[.int .i64 0, .slice none 0 0, .int .i64 0] 38 (0,0)) (by exact BK112.out)) : gb125 ≠ gb112));have n11_:=Aside0.mk ((by rw [hg];exact Nat.ne_of_lt (IsS58.lt (show IsS58 w0 _ g s0_0 t123 t124 from by exact HI0.out)) : g ≠ gb125));have n12_:=Aside0.mk ((by rw [hg];exact Nat.ne_of_gt (IsS58.lt (show IsS58 w0 _ g s0_0 t123 t124 from by exact HI0.out)) : gb125 ≠ g));clear HO115;clear HO121;clear HI0;clear BK112;clear HK;clear HB;have HO115:=n0_;have HO121:=n1_;have HI0:=n2_;have BK112:=n3_;have HK:=n4_;have HB:=n5_;have BK125:=n6_;have GW125:=n7_;have GE125:=n8_;have NB112_125:=n9_;have NB125_112:=n10_;have NB0_125:=n11_;have NB125_0:=n12_;clear n0_ n1_ n2_ n3_ n4_ n5_ n6_ n7_ n8_ n9_ n10_ n11_ n12_;clear hb hbox hg;have hnb15:=NB125_112.out;have hnc15:=NB112_125.out;have hnb16:=NB125_0.out;have hnc16:=NB0_125.out;have hcz17_0 : w14.cell? ⟨gb125,0,none⟩ = some (.int .i64 0):=(blk_cell BK125.out 0).trans rfl;have hcz17_1 : w14.cell? ⟨gb125,1,none⟩ = some (.slice none 0 0):=(blk_cell BK125.out 1).trans rfl;have hcz17_2 : w14.cell? ⟨gb125,2,none⟩ = some (.int .i64 0):=(blk_cell BK125.out 2).trans rfl;have hfz17_0:=blk_frozen BK125.out 0;have hfz17_1:=blk_frozen BK125.out 1;have hfz17_2:=blk_frozen BK125.out 2) | ((with_reducible refine gate_callee (f:=33) rfl ?_);refine goesL_ (some 15) rfl rfl Try.func33 (by kernel_rfl) rfl #[.pointer (some ⟨g,0,none⟩), .int .i64 4] rfl (by (try simp only [List.map_toArray,List.map_cons,List.map_nil]);rfl) ?_;(with_reducible refine (spec_l1Cur_pick.calls g s0_0 t123 t124 4 t126 t127 t128 w0 _ ?side1 ?side2 A4.out).mono ?_);(case side1 => repeat ((with_reducible first | exact HI0.out | refine IsS58.far ?_ NB0_125.out _)));(case side2 => repeat ((with_reducible first | exact HB.out | refine below_set ?_ GE125.out)));rintro e w18 ⟨rfl,hi,hb,hk⟩;refine ⟨_,rfl, ?_⟩;have n0_:=Aside0.mk (KeepBut.blk hk (g':=gb112) (o := .cells #[.int .i64 0, .slice none 0 0, .int .i64 0] 38 (0,0)) (by refine blk_far ?_ NB112_125.out _;refine blk_far ?_ NB112_125.out _;refine blk_far ?_ NB112_125.out _;exact BK112.out) NB112_0.out (by simp));have n1_:=Aside0.mk (Kd.R_mono (Kd.R_keep (IsS58.apart (show IsS58 w0 _ g s0_0 t123 t124 from by repeat ((with_reducible first | exact HI0.out | refine IsS58.far ?_ NB0_125.out _))) (by exact (Kd.R_mono (Kd.R_far (p:=⟨gb125,2,none⟩) (Kd.R_far (p:=⟨gb125,1,none⟩) (Kd.R_far (p:=⟨gb125,0,none⟩) (Kd.R_types HO115.out BK125.out (by decide)) (fun _ hk => hk.2) (.int .i64 t116)) (fun _ hk => hk.2) (.slice none 0 0)) (fun _ hk => hk.2) (.int .i64 t122)) (fun _ h_ => h_.1))) (by decide)) hk (fun _ h => h.2)) (fun _ h => h.1));have n2_:=Aside0.mk (Kd.R_mono (Kd.R_keep (IsS58.apart (show IsS58 w0 _ g s0_0 t123 t124 from by repeat ((with_reducible first | exact HI0.out | refine IsS58.far ?_ NB0_125.out _))) (by exact (Kd.R_mono (Kd.R_far (p:=⟨gb125,2,none⟩) (Kd.R_far (p:=⟨gb125,1,none⟩) (Kd.R_far (p:=⟨gb125,0,none⟩) (Kd.R_types HO121.out BK125.out (by decide)) (fun _ hk => hk.2) (.int .i64 t116)) (fun _ hk => hk.2) (.slice none 0 0)) (fun _ hk => hk.2) (.int .i64 t122)) (fun _ h_ => h_.1))) (by decide)) hk (fun _ h => h.2)) (fun _ h => h.1));have n3_:=Aside0.mk (KeepBut.blk hk (g':=gb125) (o := .cells #[.int .i64 t116, .slice none 0 0, .int .i64 t122] 38 (0,0)) (by refine blk_put (cs:=#[.int .i64 t116, .slice none 0 0, .int .i64 0]) ?_ 2 _ rfl;refine blk_put (cs:=#[.int .i64 t116, .slice none 0 0, .int .i64 0]) ?_ 1 _ rfl;refine blk_put (cs:=#[.int .i64 0, .slice none 0 0, .int .i64 0]) ?_ 0 _ rfl;exact BK125.out) NB125_0.out (by simp));have n4_:=Aside0.mk (KeepBut.trans (by repeat ((with_reducible first | exact HK.out | refine keep_far ?_ GW125.out _))) hk (.inl rfl));have n5_:=Aside0.mk (hb);have n6_:=Aside0.mk (hi);clear BK112;clear HO115;clear HO121;clear BK125;clear HK;clear HB;clear HI0;have BK112:=n0_;have HO115:=n1_;have HO121:=n2_;have BK125:=n3_;have HK:=n4_;have HB:=n5_;have HI0:=n6_;clear n0_ n1_ n2_ n3_ n4_ n5_ n6_;(try clear hb);(try clear hk);(try clear hi)))
 go_loopg [4] k (fun kq v4 w' => ∃ (x4_1 : Int) (x1001_1 : Int) (x1002_1 : Int) (x126001_1 : List (S51)) (u126001 : Value),v4 = .int .i64 x4_1 ∧ Aside0 (spec_l1Cur_charge.l0 kq x4_1 s0_0 x1001_1 x1002_1 t116 x126001_1 t122 = some (r1,r2,r3,r4,r5)) ∧ Aside0 (kq ≤ k) ∧ Aside0 (Kd.R k51 51 w' w.heap.size (fun _ => True) u126001 x126001_1) ∧ Aside0 (w'.heap[gb112]? = some (.cells #[.int .i64 0,(.slice none 0 0), .int .i64 0] 38 (0,0))) ∧ Aside0 (w'.heap[gb125]? = some (.cells #[.int .i64 t116,u126001, .int .i64 t122] 38 (0,0))) ∧ Aside0 (IsS58 w0 w' g s0_0 x1001_1 x1002_1) ∧ Aside0 (KeepBut w w' g none) ∧ Aside0 (Below w0.heap.size w0 w'))
 case atStart => exact ⟨(wrap64 (1 + t126)),(t127),(t128),(([] : List (S51))),(.slice none 0 0),(by rfl),H',⟨Nat.le_refl _⟩,⟨by exact Kd.R_nil _ _ _ _ _⟩,⟨by exact BK112.out⟩,⟨by exact BK125.out⟩,⟨by exact HI0.out⟩,⟨by exact HK.out⟩,⟨by exact HB.out⟩⟩
 case round =>
  clear H'
  try clear c1
  try clear p2
  try clear c3
  try clear c4
  try clear p6
  try clear c15
  try clear c16
  try clear hcz17_0
  try clear hcz17_1
  try clear hcz17_2
  try clear hfz17_0
  try clear hfz17_1
  try clear hfz17_2
  obtain ⟨x4_1,x1001_1,x1002_1,x126001_1,u126001,rfl,HA,HK1,HO_126001,BK112,BK125,HI0,HK,HB⟩ := hrel
  cases gk with
  | zero => exact absurd HA.out (by simp [spec_l1Cur_charge.l0])
  | succ k1 =>
   have H:=HA.out
   clear HA
   simp only [spec_l1Cur_charge.l0] at H
   by_cases c19 : x4_1 > 0
   ·rw [if_pos c19] at H
    have c19b0 : decide (0 < x4_1) = true:=decide_eq_true c19
    clear c19
    obtain ⟨y129,hy129⟩ : ∃ y_ : List Int,y_ = (([1,2,5,10,100] : List Int)):=⟨_,rfl⟩
    replace H : ((spec_l1Cur_among.f s0_0 x1001_1 x1002_1 y129).bind fun bt132 => ((spec_l1Cur_among.f s0_0 bt132.2.1 bt132.2.2 (([0,1,33,300,10000] : List Int))).bind fun bt138 => (if x126001_1.length < 8796093022208 then (spec_l1Cur_charge.l0 k1 (wrap64 (x4_1 - 1)) s0_0 bt138.2.1 bt138.2.2 t116 (x126001_1 ++ [(⟨bt132.1,bt138.1⟩ : S51)]) t122) else (none)))) = some (r1,r2,r3,r4,r5):=by (rw [hy129];with_reducible exact H)
    have Ny129:=Aside0.mk hy129
    clear hy129
    replace H:=Option.bind_eq_some_iff.mp H
    obtain ⟨⟨t132,t133,t134⟩,A200,H⟩ := H
    replace H : ((spec_l1Cur_among.f s0_0 t133 t134 (([0,1,33,300,10000] : List Int))).bind fun bt138 => (if x126001_1.length < 8796093022208 then (spec_l1Cur_charge.l0 k1 (wrap64 (x4_1 - 1)) s0_0 bt138.2.1 bt138.2.2 t116 (x126001_1 ++ [(⟨t132,bt138.1⟩ : S51)]) t122) else (none))) = some (r1,r2,r3,r4,r5):=H
    have A20:=Aside0.mk A200
    clear A200
    obtain ⟨y135,hy135⟩ : ∃ y_ : List Int,y_ = (([0,1,33,300,10000] : List Int)):=⟨_,rfl⟩
    replace H : ((spec_l1Cur_among.f s0_0 t133 t134 y135).bind fun bt138 => (if x126001_1.length < 8796093022208 then (spec_l1Cur_charge.l0 k1 (wrap64 (x4_1 - 1)) s0_0 bt138.2.1 bt138.2.2 t116 (x126001_1 ++ [(⟨t132,bt138.1⟩ : S51)]) t122) else (none))) = some (r1,r2,r3,r4,r5):=by (rw [hy135];with_reducible exact H)
    have Ny135:=Aside0.mk hy135
    clear hy135
    replace H:=Option.bind_eq_some_iff.mp H
    obtain ⟨⟨t138,t139,t140⟩,A210,H⟩ := H
    replace H : (if x126001_1.length < 8796093022208 then (spec_l1Cur_charge.l0 k1 (wrap64 (x4_1 - 1)) s0_0 t139 t140 t116 (x126001_1 ++ [(⟨t132,t138⟩ : S51)]) t122) else (none)) = some (r1,r2,r3,r4,r5):=H
    have A21:=Aside0.mk A210
    clear A210
    by_cases c22 : x126001_1.length < 8796093022208
    ·rw [if_pos c22] at H
     have LMc22:=Aside0.mk c22
     clear c22
     obtain ⟨y141,hy141⟩ : ∃ y_ : List (S51),y_ = (x126001_1 ++ [(⟨t132,t138⟩ : S51)]):=⟨_,rfl⟩
     replace H : (spec_l1Cur_charge.l0 k1 (wrap64 (x4_1 - 1)) s0_0 t139 t140 t116 y141 t122) = some (r1,r2,r3,r4,r5):=by (rw [hy141];with_reducible exact H)
     have Ny141:=Aside0.mk hy141
     clear hy141
     have H':=Aside0.mk H
     clear H
     obtain ⟨Ao23,co23,eo23⟩ := Kd.R_slice HO_126001.out
     subst eo23
     try go_wp2
     have n0_:=Aside0.mk (Kd.R_drew HO_126001.out)
     have n1_:=Aside0.mk (blk_drew BK112.out)
     have n2_:=Aside0.mk (blk_drew BK125.out)
     have n3_:=Aside0.mk (IsS58.drew HI0.out)
     have n4_:=Aside0.mk (keep_drew HK.out)
     have n5_:=Aside0.mk (below_drew1 HB.out)
     clear HO_126001
     clear BK112
     clear BK125
     clear HI0
     clear HK
     clear HB
     have HO_126001:=n0_
     have BK112:=n1_
     have BK125:=n2_
     have HI0:=n3_
     have HK:=n4_
     have HB:=n5_
     clear n0_ n1_ n2_ n3_ n4_ n5_
     refine start_ (n:=13) (S:=fun w' => w'.cell? ⟨gb125,0,none⟩ = some (.int .i64 t116) ∧ w'.cell? ⟨gb125,1,none⟩ = some (.slice Ao23 x126001_1.length co23) ∧ w'.cell? ⟨gb125,2,none⟩ = some (.int .i64 t122)) (ds := [12]) #[false,false,false,false,false,false,false,false,false,false,false,false,false] (by kernel_rfl) rfl rfl ⟨(blk_cell BK125.out 0).trans rfl,(blk_cell BK125.out 1).trans rfl,(blk_cell BK125.out 2).trans rfl⟩ (fun hHeld => ?_);refine with_tabW spec_l1Cur_charge.tab5 spec_l1Cur_charge.bits5 (fun HT_ HW_ => ?_)
     generalize wr.drew = w24 at HO_126001 BK112 BK125 HI0 HK HB hHeld ⊢
     refine pure_ (i:=0) (N:=some 21) (v:=?_) (a':=?_) #[true,false,false,false,false,false,false,false,false,false,false,false,false] rfl rfl (any_of HT_.out (by kernel_rfl)) (fun _ _ _ h => h) (Or.inl ⟨by rfl, ?_⟩) ?_ ?_
     rotate_left
     ·intro w'
      go_simp
      with_reducible rfl
     rotate_left
     ·simp only [Act.put,sA_,s0_,s1_,i64_w,i32_w]
      rfl
     refine pure_ (i:=2) (N:=some 23) (v:=?_) (a':=?_) #[true,false,true,false,false,false,false,false,false,false,false,false,false] rfl rfl (any_of HT_.out (by kernel_rfl)) (fun _ _ _ h => h) (Or.inl ⟨by rfl, ?_⟩) ?_ ?_
     rotate_left
     ·intro w'
      go_simp
      with_reducible rfl
     rotate_left
     ·simp only [Act.put,sA_,s0_,s1_,i64_w,i32_w]
      rfl
     refine pure_ (i:=5) (N:=some 26) (v:=?_) (a':=?_) #[true,false,true,false,false,true,false,false,false,false,false,false,false] rfl rfl (any_of HT_.out (by kernel_rfl)) (fun _ _ _ h => h) (Or.inl ⟨by rfl, ?_⟩) ?_ ?_
     rotate_left
     ·intro w'
      go_simp
      with_reducible rfl
     rotate_left
     ·simp only [Act.put,sA_,s0_,s1_,i64_w,i32_w]
      rfl
     refine take_ (i:=1) (N:=some 22) (v:=?_) (a':=?_) #[true,true,true,false,false,true,false,false,false,false,false,false,false] rfl rfl (take_ofW HT_.out HW_.out (by kernel_rfl)) (fun _ _ _ h => h) (Or.inl ⟨by rfl, ?_⟩) hHeld ?_ ?_
     rotate_left
     ·rintro w' ⟨s0,s1,s2⟩
      go_simp
      with_reducible rfl
     rotate_left
     ·simp only [Act.put,sA_,s0_,s1_,i64_w,i32_w]
      rfl
     refine join_ (σ:=Value × Value) 6 #[true,true,true,true,true,true,true,false,false,false,false,false,false] (fun s_ => [(24,s_.1),(25, .int .i64 t132),(27,s_.2)]) (fun s_ w' => (w'.cell? ⟨gb125,0,none⟩ = some (.int .i64 t116) ∧ w'.cell? ⟨gb125,1,none⟩ = some (.slice Ao23 x126001_1.length co23) ∧ w'.cell? ⟨gb125,2,none⟩ = some (.int .i64 t122)) ∧ (Kd.R (Kd.int .i64) 3 w' w.heap.size (fun k_ => some k_ ≠ (s_.2 : Value).ownBlock) s_.1 y129) ∧ (Kd.R (Kd.int .i64) 3 w' w.heap.size (fun k_ => some k_ ≠ (s_.1 : Value).ownBlock) s_.2 y135) ∧ (Kd.R k51 51 w' w.heap.size (fun _ => True) (.slice Ao23 x126001_1.length co23) x126001_1) ∧ (w'.heap[gb112]? = some (.cells #[.int .i64 0, .slice none 0 0, .int .i64 0] 38 (0,0))) ∧ (w'.heap[gb125]? = some (.cells #[.int .i64 t116, .slice Ao23 x126001_1.length co23, .int .i64 t122] 38 (0,0))) ∧ (IsS58 w0 w' g s0_0 t133 t134) ∧ (KeepBut w w' g none) ∧ (Below w0.heap.size w0 w')) ?_ ?_
     rotate_left
     ·intro hCont
      refine two_ (i:=3) (j:=6) (Ni:=some 24) (Nj:=some 27) #[true,true,true,true,false,true,false,false,false,false,false,false,false] #[true,true,true,false,false,true,true,false,false,false,false,false,false] rfl rfl rfl rfl (two_of HT_.out (by kernel_rfl)) (by decide) (by decide) (fun K hK => ?_) (fun K hK => ?_)
      ·skip
       refine Kd.R_lit_step (Kd.int .i64) _ 3 ?hg (N:=24) ?hd (xs:=([1,2,5,10,100] : List Int)) (inner := [.int .i64 1, .int .i64 2, .int .i64 5, .int .i64 10, .int .i64 100]) (ok:=fun _ => True) (okp:=fun _ => True) ?hr ?hp (fun _ hk => hk) trivial (Below.refl _ _) (Nat.le_refl _) (by simp) ?_;(case hd => rfl);(case hg => rfl);(case hr => (go_simp;done));(case hp => exact (Reps.one (show Kd.M (Kd.int .i64) _ _ _ 1 [.int .i64 1] from rfl) (Reps.one (show Kd.M (Kd.int .i64) _ _ _ 2 [.int .i64 2] from rfl) (Reps.one (show Kd.M (Kd.int .i64) _ _ _ 5 [.int .i64 5] from rfl) (Reps.one (show Kd.M (Kd.int .i64) _ _ _ 10 [.int .i64 10] from rfl) (Reps.one (show Kd.M (Kd.int .i64) _ _ _ 100 [.int .i64 100] from rfl) (Reps.none _ _)))))))
       intro v130 w25 ho26 hb hg_ hnew_
       clear hg_ hnew_
       (rw [← Ny129.out] at ho26)
       have n0_:=Aside0.mk (Kd.R_below (by exact HO_126001.out) hb)
       have n1_:=Aside0.mk (Kd.R_lower ho26 (keep_size (w:=w) (g:=g) (row:=none) (by exact HK.out)))
       have n2_:=Aside0.mk (blk_below (g:=gb112) (o := .cells #[.int .i64 0, .slice none 0 0, .int .i64 0] 38 (0,0)) (by exact BK112.out) hb)
       have n3_:=Aside0.mk (blk_below (g:=gb125) (o := .cells #[.int .i64 t116, .slice Ao23 x126001_1.length co23, .int .i64 t122] 38 (0,0)) (by exact BK125.out) hb)
       have n4_:=Aside0.mk (IsS58.below (by exact HI0.out) hb)
       have n5_:=Aside0.mk (KeepBut.trans (by exact HK.out) (KeepBut.of_below hb g none) (.inl rfl))
       have n6_:=Aside0.mk (below_step (by exact HB.out) hb)
       clear HO_126001
       clear BK112
       clear BK125
       clear HI0
       clear HK
       clear HB
       have HO_126001:=n0_
       have HO131:=n1_
       have BK112:=n2_
       have BK125:=n3_
       have HI0:=n4_
       have HK:=n5_
       have HB:=n6_
       clear n0_ n1_ n2_ n3_ n4_ n5_ n6_
       clear hb ho26
       obtain ⟨Ao27,co27,eo27⟩ := Kd.R_slice HO131.out
       (subst eo27)
       refine hK.out _ _ ⟨(blk_cell BK125.out 0).trans rfl,(blk_cell BK125.out 1).trans rfl,(blk_cell BK125.out 2).trans rfl⟩ (fun hHeld => ?_)
       clear hK K
       refine norm_ (a':=?_) ?_ ?_
       rotate_left
       ·show Act.put _ (some 24) _ = _
        simp only [Act.put,sA_,s0_,s1_,i64_w,i32_w]
        rfl
       refine two_ (i:=4) (j:=6) (Ni:=some 25) (Nj:=some 27) #[true,true,true,true,true,true,false,false,false,false,false,false,false] #[true,true,true,true,false,true,true,false,false,false,false,false,false] rfl rfl rfl rfl (two_of HT_.out (by kernel_rfl)) (by decide) (by decide) (fun K hK => ?_) (fun K hK => ?_)
       ·skip
        refine goes_ Try.func36 (by kernel_rfl) rfl #[.pointer (some ⟨g,0,none⟩), .slice Ao27 y129.length co27] (by rfl) rfl rfl (by (try simp only [List.map_toArray,List.map_cons,List.map_nil]);rfl) ?_
        with_reducible refine (spec_l1Cur_among.calls g s0_0 x1001_1 x1002_1 _ _ y129 t132 t133 t134 w0 _ ?side1 ?side2 ?side3 ?side4 ?side5 A20.out).mono ?_
        (case side1 => exact HI0.out)
        (case side2 => exact HB.out)
        (case side3 => repeat (exact (Kd.R_reads' HO131.out).2.2))
        (case side4 => exact (Kd.R_reads' HO131.out).2.1)
        (case side5 => exact far_slice (IsS58.own_ne HI0.out HO131.out (by decide)))
        rintro e w28 ⟨rfl,hi,hb,hk⟩
        refine ⟨_,rfl, ?_⟩
        have n0_:=Aside0.mk (Kd.R_mono (Kd.R_keep (IsS58.apart (show IsS58 w0 _ g s0_0 x1001_1 x1002_1 from by exact HI0.out) (by exact HO_126001.out) (by decide)) hk (fun _ h => h.2)) (fun _ h => h.1))
        have n1_:=Aside0.mk (KeepBut.blk hk (g':=gb112) (o := .cells #[.int .i64 0, .slice none 0 0, .int .i64 0] 38 (0,0)) (by exact BK112.out) NB112_0.out (by simp))
        have n2_:=Aside0.mk (KeepBut.blk hk (g':=gb125) (o := .cells #[.int .i64 t116, .slice Ao23 x126001_1.length co23, .int .i64 t122] 38 (0,0)) (by exact BK125.out) NB125_0.out (by simp))
        have n3_:=Aside0.mk (Kd.R_mono (Kd.R_keep (IsS58.apart (show IsS58 w0 _ g s0_0 x1001_1 x1002_1 from by exact HI0.out) (by exact HO131.out) (by decide)) hk (fun _ h => h.2)) (fun _ h => h.1))
        have n4_:=Aside0.mk (KeepBut.trans (by exact HK.out) hk (.inl rfl))
        have n5_:=Aside0.mk (hb)
        have n6_:=Aside0.mk (hi)
        clear HO_126001
        clear BK112
        clear BK125
        clear HO131
        clear HK
        clear HB
        clear HI0
        have HO_126001:=n0_
        have BK112:=n1_
        have BK125:=n2_
        have HO131:=n3_
        have HK:=n4_
        have HB:=n5_
        have HI0:=n6_
        clear n0_ n1_ n2_ n3_ n4_ n5_ n6_
        (try clear hb)
        (skip)
        (try clear hk)
        (try clear hi)
        refine hK.out _ _ ⟨(blk_cell BK125.out 0).trans rfl,(blk_cell BK125.out 1).trans rfl,(blk_cell BK125.out 2).trans rfl⟩ (fun hHeld => ?_)
        clear hK K
        refine norm_ (a':=?_) ?_ ?_
        rotate_left
        ·show Act.put _ (some 25) _ = _
         simp only [Act.put,sA_,s0_,s1_,i64_w,i32_w]
         rfl
        refine one_ (i:=6) (N:=some 27) #[true,true,true,true,true,true,true,false,false,false,false,false,false] rfl rfl (one_of HT_.out (by kernel_rfl)) (by decide) (fun K hK => ?_)
        refine Kd.R_lit_step (Kd.int .i64) _ 3 ?hg (N:=27) ?hd (xs:=([0,1,33,300,10000] : List Int)) (inner := [.int .i64 0, .int .i64 1, .int .i64 33, .int .i64 300, .int .i64 10000]) (ok:=fun _ => True) (okp:=fun _ => True) ?hr ?hp (fun _ hk => hk) trivial (Below.refl _ _) (Nat.le_refl _) (by simp) ?_;(case hd => rfl);(case hg => rfl);(case hr => (go_simp;done));(case hp => exact (Reps.one (show Kd.M (Kd.int .i64) _ _ _ 0 [.int .i64 0] from rfl) (Reps.one (show Kd.M (Kd.int .i64) _ _ _ 1 [.int .i64 1] from rfl) (Reps.one (show Kd.M (Kd.int .i64) _ _ _ 33 [.int .i64 33] from rfl) (Reps.one (show Kd.M (Kd.int .i64) _ _ _ 300 [.int .i64 300] from rfl) (Reps.one (show Kd.M (Kd.int .i64) _ _ _ 10000 [.int .i64 10000] from rfl) (Reps.none _ _)))))))
        intro v136 w29 ho30 hb hg_ hnew_
        clear hg_ hnew_
        (rw [← Ny135.out] at ho30)
        have n0_:=Aside0.mk (Kd.R_below (by exact HO_126001.out) hb)
        have n1_:=Aside0.mk (Kd.R_elder' (by exact HO131.out) (Kd.R_base ho30) hb)
        have n2_:=Aside0.mk (Kd.R_lower (Kd.R_new' ho30 (Kd.R_lt (by exact HO131.out))) (keep_size (w:=w) (g:=g) (row:=none) (by exact HK.out)))
        have n3_:=Aside0.mk (blk_below (g:=gb112) (o := .cells #[.int .i64 0, .slice none 0 0, .int .i64 0] 38 (0,0)) (by exact BK112.out) hb)
        have n4_:=Aside0.mk (blk_below (g:=gb125) (o := .cells #[.int .i64 t116, .slice Ao23 x126001_1.length co23, .int .i64 t122] 38 (0,0)) (by exact BK125.out) hb)
        have n5_:=Aside0.mk (IsS58.below (by exact HI0.out) hb)
        have n6_:=Aside0.mk (KeepBut.trans (by exact HK.out) (KeepBut.of_below hb g none) (.inl rfl))
        have n7_:=Aside0.mk (below_step (by exact HB.out) hb)
        clear HO_126001
        clear HO131
        clear BK112
        clear BK125
        clear HI0
        clear HK
        clear HB
        have HO_126001:=n0_
        have HO131:=n1_
        have HO137:=n2_
        have BK112:=n3_
        have BK125:=n4_
        have HI0:=n5_
        have HK:=n6_
        have HB:=n7_
        clear n0_ n1_ n2_ n3_ n4_ n5_ n6_ n7_
        clear hb ho30
        refine hK.out _ _ ⟨(blk_cell BK125.out 0).trans rfl,(blk_cell BK125.out 1).trans rfl,(blk_cell BK125.out 2).trans rfl⟩ (fun hHeld => ?_)
        clear hK K
        refine norm_ (a':=?_) ?_ ?_
        rotate_left
        ·show Act.put _ (some 27) _ = _
         simp only [Act.put,sA_,s0_,s1_,i64_w,i32_w]
         rfl
        exact norm_ (by simp only [putAll,Act.put,sA_,s0_,s1_]) (hCont (.slice Ao27 y129.length co27,v136) _ ⟨hHeld,(by exact Kd.R_mono HO131.out (fun _ hk => hk.2)),(by exact Kd.R_mono HO137.out (fun _ hk => hk.2)),(by exact HO_126001.out),(by exact BK112.out),(by exact BK125.out),(by exact HI0.out),(by exact HK.out),(by exact HB.out)⟩)
       ·skip
        refine Kd.R_lit_step (Kd.int .i64) _ 3 ?hg (N:=27) ?hd (xs:=([0,1,33,300,10000] : List Int)) (inner := [.int .i64 0, .int .i64 1, .int .i64 33, .int .i64 300, .int .i64 10000]) (ok:=fun _ => True) (okp:=fun _ => True) ?hr ?hp (fun _ hk => hk) trivial (Below.refl _ _) (Nat.le_refl _) (by simp) ?_;(case hd => rfl);(case hg => rfl);(case hr => (go_simp;done));(case hp => exact (Reps.one (show Kd.M (Kd.int .i64) _ _ _ 0 [.int .i64 0] from rfl) (Reps.one (show Kd.M (Kd.int .i64) _ _ _ 1 [.int .i64 1] from rfl) (Reps.one (show Kd.M (Kd.int .i64) _ _ _ 33 [.int .i64 33] from rfl) (Reps.one (show Kd.M (Kd.int .i64) _ _ _ 300 [.int .i64 300] from rfl) (Reps.one (show Kd.M (Kd.int .i64) _ _ _ 10000 [.int .i64 10000] from rfl) (Reps.none _ _)))))))
        intro v136 w27 ho28 hb hg_ hnew_
        clear hg_ hnew_
        (rw [← Ny135.out] at ho28)
        have n0_:=Aside0.mk (Kd.R_below (by exact HO_126001.out) hb)
        have n1_:=Aside0.mk (Kd.R_elder' (by exact HO131.out) (Kd.R_base ho28) hb)
        have n2_:=Aside0.mk (Kd.R_lower (Kd.R_new' ho28 (Kd.R_lt (by exact HO131.out))) (keep_size (w:=w) (g:=g) (row:=none) (by exact HK.out)))
        have n3_:=Aside0.mk (blk_below (g:=gb112) (o := .cells #[.int .i64 0, .slice none 0 0, .int .i64 0] 38 (0,0)) (by exact BK112.out) hb)
        have n4_:=Aside0.mk (blk_below (g:=gb125) (o := .cells #[.int .i64 t116, .slice Ao23 x126001_1.length co23, .int .i64 t122] 38 (0,0)) (by exact BK125.out) hb)
        have n5_:=Aside0.mk (IsS58.below (by exact HI0.out) hb)
        have n6_:=Aside0.mk (KeepBut.trans (by exact HK.out) (KeepBut.of_below hb g none) (.inl rfl))
        have n7_:=Aside0.mk (below_step (by exact HB.out) hb)
        clear HO_126001
        clear HO131
        clear BK112
        clear BK125
        clear HI0
        clear HK
        clear HB
        have HO_126001:=n0_
        have HO131:=n1_
        have HO137:=n2_
        have BK112:=n3_
        have BK125:=n4_
        have HI0:=n5_
        have HK:=n6_
        have HB:=n7_
        clear n0_ n1_ n2_ n3_ n4_ n5_ n6_ n7_
        clear hb ho28
        obtain ⟨Ao29,co29,eo29⟩ := Kd.R_slice HO131.out
        ((injection eo29 with f1_ f2_ f3_;have f4_:=f1_.symm;have f5_:=f3_.symm;clear f1_ f2_ f3_;subst f4_;subst f5_))
        refine hK.out _ _ ⟨(blk_cell BK125.out 0).trans rfl,(blk_cell BK125.out 1).trans rfl,(blk_cell BK125.out 2).trans rfl⟩ (fun hHeld => ?_)
        clear hK K
        refine norm_ (a':=?_) ?_ ?_
        rotate_left
        ·show Act.put _ (some 27) _ = _
         simp only [Act.put,sA_,s0_,s1_,i64_w,i32_w]
         rfl
        refine one_ (i:=4) (N:=some 25) #[true,true,true,true,true,true,true,false,false,false,false,false,false] rfl rfl (one_of HT_.out (by kernel_rfl)) (by decide) (fun K hK => ?_)
        refine goes_ Try.func36 (by kernel_rfl) rfl #[.pointer (some ⟨g,0,none⟩), .slice Ao29 y129.length co29] (by rfl) rfl rfl (by (try simp only [List.map_toArray,List.map_cons,List.map_nil]);rfl) ?_
        with_reducible refine (spec_l1Cur_among.calls g s0_0 x1001_1 x1002_1 _ _ y129 t132 t133 t134 w0 _ ?side1 ?side2 ?side3 ?side4 ?side5 A20.out).mono ?_
        (case side1 => exact HI0.out)
        (case side2 => exact HB.out)
        (case side3 => repeat (exact (Kd.R_reads' HO131.out).2.2))
        (case side4 => exact (Kd.R_reads' HO131.out).2.1)
        (case side5 => exact far_slice (IsS58.own_ne HI0.out HO131.out (by decide)))
        rintro e w30 ⟨rfl,hi,hb,hk⟩
        refine ⟨_,rfl, ?_⟩
        have n0_:=Aside0.mk (Kd.R_mono (Kd.R_keep (IsS58.apart (show IsS58 w0 _ g s0_0 x1001_1 x1002_1 from by exact HI0.out) (by exact HO_126001.out) (by decide)) hk (fun _ h => h.2)) (fun _ h => h.1))
        have n1_:=Aside0.mk (KeepBut.blk hk (g':=gb112) (o := .cells #[.int .i64 0, .slice none 0 0, .int .i64 0] 38 (0,0)) (by exact BK112.out) NB112_0.out (by simp))
        have n2_:=Aside0.mk (KeepBut.blk hk (g':=gb125) (o := .cells #[.int .i64 t116, .slice Ao23 x126001_1.length co23, .int .i64 t122] 38 (0,0)) (by exact BK125.out) NB125_0.out (by simp))
        have n3_:=Aside0.mk (Kd.R_mono (Kd.R_keep (IsS58.apart (show IsS58 w0 _ g s0_0 x1001_1 x1002_1 from by exact HI0.out) (by exact HO131.out) (by decide)) hk (fun _ h => h.2)) (fun _ h => h.1))
        have n4_:=Aside0.mk (Kd.R_mono (Kd.R_keep (IsS58.apart (show IsS58 w0 _ g s0_0 x1001_1 x1002_1 from by exact HI0.out) (by exact HO137.out) (by decide)) hk (fun _ h => h.2)) (fun _ h => h.1))
        have n5_:=Aside0.mk (KeepBut.trans (by exact HK.out) hk (.inl rfl))
        have n6_:=Aside0.mk (hb)
        have n7_:=Aside0.mk (hi)
        clear HO_126001
        clear BK112
        clear BK125
        clear HO131
        clear HO137
        clear HK
        clear HB
        clear HI0
        have HO_126001:=n0_
        have BK112:=n1_
        have BK125:=n2_
        have HO131:=n3_
        have HO137:=n4_
        have HK:=n5_
        have HB:=n6_
        have HI0:=n7_
        clear n0_ n1_ n2_ n3_ n4_ n5_ n6_ n7_
        (try clear hb)
        (skip)
        (try clear hk)
        (try clear hi)
        refine hK.out _ _ ⟨(blk_cell BK125.out 0).trans rfl,(blk_cell BK125.out 1).trans rfl,(blk_cell BK125.out 2).trans rfl⟩ (fun hHeld => ?_)
        clear hK K
        refine norm_ (a':=?_) ?_ ?_
        rotate_left
        ·show Act.put _ (some 25) _ = _
         simp only [Act.put,sA_,s0_,s1_,i64_w,i32_w]
         rfl
        exact norm_ (by simp only [putAll,Act.put,sA_,s0_,s1_]) (hCont (.slice Ao29 y129.length co29,v136) _ ⟨hHeld,(by exact Kd.R_mono HO131.out (fun _ hk => hk.2)),(by exact Kd.R_mono HO137.out (fun _ hk => hk.2)),(by exact HO_126001.out),(by exact BK112.out),(by exact BK125.out),(by exact HI0.out),(by exact HK.out),(by exact HB.out)⟩)
      ·skip
       refine Kd.R_lit_step (Kd.int .i64) _ 3 ?hg (N:=27) ?hd (xs:=([0,1,33,300,10000] : List Int)) (inner := [.int .i64 0, .int .i64 1, .int .i64 33, .int .i64 300, .int .i64 10000]) (ok:=fun _ => True) (okp:=fun _ => True) ?hr ?hp (fun _ hk => hk) trivial (Below.refl _ _) (Nat.le_refl _) (by simp) ?_;(case hd => rfl);(case hg => rfl);(case hr => (go_simp;done));(case hp => exact (Reps.one (show Kd.M (Kd.int .i64) _ _ _ 0 [.int .i64 0] from rfl) (Reps.one (show Kd.M (Kd.int .i64) _ _ _ 1 [.int .i64 1] from rfl) (Reps.one (show Kd.M (Kd.int .i64) _ _ _ 33 [.int .i64 33] from rfl) (Reps.one (show Kd.M (Kd.int .i64) _ _ _ 300 [.int .i64 300] from rfl) (Reps.one (show Kd.M (Kd.int .i64) _ _ _ 10000 [.int .i64 10000] from rfl) (Reps.none _ _)))))))
       intro v136 w25 ho26 hb hg_ hnew_
       clear hg_ hnew_
       (rw [← Ny135.out] at ho26)
       have n0_:=Aside0.mk (Kd.R_below (by exact HO_126001.out) hb)
       have n1_:=Aside0.mk (Kd.R_lower ho26 (keep_size (w:=w) (g:=g) (row:=none) (by exact HK.out)))
       have n2_:=Aside0.mk (blk_below (g:=gb112) (o := .cells #[.int .i64 0, .slice none 0 0, .int .i64 0] 38 (0,0)) (by exact BK112.out) hb)
       have n3_:=Aside0.mk (blk_below (g:=gb125) (o := .cells #[.int .i64 t116, .slice Ao23 x126001_1.length co23, .int .i64 t122] 38 (0,0)) (by exact BK125.out) hb)
       have n4_:=Aside0.mk (IsS58.below (by exact HI0.out) hb)
       have n5_:=Aside0.mk (KeepBut.trans (by exact HK.out) (KeepBut.of_below hb g none) (.inl rfl))
       have n6_:=Aside0.mk (below_step (by exact HB.out) hb)
       clear HO_126001
       clear BK112
       clear BK125
       clear HI0
       clear HK
       clear HB
       have HO_126001:=n0_
       have HO137:=n1_
       have BK112:=n2_
       have BK125:=n3_
       have HI0:=n4_
       have HK:=n5_
       have HB:=n6_
       clear n0_ n1_ n2_ n3_ n4_ n5_ n6_
       clear hb ho26
       refine hK.out _ _ ⟨(blk_cell BK125.out 0).trans rfl,(blk_cell BK125.out 1).trans rfl,(blk_cell BK125.out 2).trans rfl⟩ (fun hHeld => ?_)
       clear hK K
       refine norm_ (a':=?_) ?_ ?_
       rotate_left
       ·show Act.put _ (some 27) _ = _
        simp only [Act.put,sA_,s0_,s1_,i64_w,i32_w]
        rfl
       refine one_ (i:=3) (N:=some 24) #[true,true,true,true,false,true,true,false,false,false,false,false,false] rfl rfl (one_of HT_.out (by kernel_rfl)) (by decide) (fun K hK => ?_)
       refine Kd.R_lit_step (Kd.int .i64) _ 3 ?hg (N:=24) ?hd (xs:=([1,2,5,10,100] : List Int)) (inner := [.int .i64 1, .int .i64 2, .int .i64 5, .int .i64 10, .int .i64 100]) (ok:=fun _ => True) (okp:=fun _ => True) ?hr ?hp (fun _ hk => hk) trivial (Below.refl _ _) (Nat.le_refl _) (by simp) ?_;(case hd => rfl);(case hg => rfl);(case hr => (go_simp;done));(case hp => exact (Reps.one (show Kd.M (Kd.int .i64) _ _ _ 1 [.int .i64 1] from rfl) (Reps.one (show Kd.M (Kd.int .i64) _ _ _ 2 [.int .i64 2] from rfl) (Reps.one (show Kd.M (Kd.int .i64) _ _ _ 5 [.int .i64 5] from rfl) (Reps.one (show Kd.M (Kd.int .i64) _ _ _ 10 [.int .i64 10] from rfl) (Reps.one (show Kd.M (Kd.int .i64) _ _ _ 100 [.int .i64 100] from rfl) (Reps.none _ _)))))))
       intro v130 w27 ho28 hb hg_ hnew_
       clear hg_ hnew_
       (rw [← Ny129.out] at ho28)
       have n0_:=Aside0.mk (Kd.R_below (by exact HO_126001.out) hb)
       have n1_:=Aside0.mk (Kd.R_elder' (by exact HO137.out) (Kd.R_base ho28) hb)
       have n2_:=Aside0.mk (Kd.R_lower (Kd.R_new' ho28 (Kd.R_lt (by exact HO137.out))) (keep_size (w:=w) (g:=g) (row:=none) (by exact HK.out)))
       have n3_:=Aside0.mk (blk_below (g:=gb112) (o := .cells #[.int .i64 0, .slice none 0 0, .int .i64 0] 38 (0,0)) (by exact BK112.out) hb)
       have n4_:=Aside0.mk (blk_below (g:=gb125) (o := .cells #[.int .i64 t116, .slice Ao23 x126001_1.length co23, .int .i64 t122] 38 (0,0)) (by exact BK125.out) hb)
       have n5_:=Aside0.mk (IsS58.below (by exact HI0.out) hb)
       have n6_:=Aside0.mk (KeepBut.trans (by exact HK.out) (KeepBut.of_below hb g none) (.inl rfl))
       have n7_:=Aside0.mk (below_step (by exact HB.out) hb)
       clear HO_126001
       clear HO137
       clear BK112
       clear BK125
       clear HI0
       clear HK
       clear HB
       have HO_126001:=n0_
       have HO137:=n1_
       have HO131:=n2_
       have BK112:=n3_
       have BK125:=n4_
       have HI0:=n5_
       have HK:=n6_
       have HB:=n7_
       clear n0_ n1_ n2_ n3_ n4_ n5_ n6_ n7_
       clear hb ho28
       obtain ⟨Ao29,co29,eo29⟩ := Kd.R_slice HO131.out
       (subst eo29)
       refine hK.out _ _ ⟨(blk_cell BK125.out 0).trans rfl,(blk_cell BK125.out 1).trans rfl,(blk_cell BK125.out 2).trans rfl⟩ (fun hHeld => ?_)
       clear hK K
       refine norm_ (a':=?_) ?_ ?_
       rotate_left
       ·show Act.put _ (some 24) _ = _
        simp only [Act.put,sA_,s0_,s1_,i64_w,i32_w]
        rfl
       refine one_ (i:=4) (N:=some 25) #[true,true,true,true,true,true,true,false,false,false,false,false,false] rfl rfl (one_of HT_.out (by kernel_rfl)) (by decide) (fun K hK => ?_)
       refine goes_ Try.func36 (by kernel_rfl) rfl #[.pointer (some ⟨g,0,none⟩), .slice Ao29 y129.length co29] (by rfl) rfl rfl (by (try simp only [List.map_toArray,List.map_cons,List.map_nil]);rfl) ?_
       with_reducible refine (spec_l1Cur_among.calls g s0_0 x1001_1 x1002_1 _ _ y129 t132 t133 t134 w0 _ ?side1 ?side2 ?side3 ?side4 ?side5 A20.out).mono ?_
       (case side1 => exact HI0.out)
       (case side2 => exact HB.out)
       (case side3 => repeat (exact (Kd.R_reads' HO131.out).2.2))
       (case side4 => exact (Kd.R_reads' HO131.out).2.1)
       (case side5 => exact far_slice (IsS58.own_ne HI0.out HO131.out (by decide)))
       rintro e w30 ⟨rfl,hi,hb,hk⟩
       refine ⟨_,rfl, ?_⟩
       have n0_:=Aside0.mk (Kd.R_mono (Kd.R_keep (IsS58.apart (show IsS58 w0 _ g s0_0 x1001_1 x1002_1 from by exact HI0.out) (by exact HO_126001.out) (by decide)) hk (fun _ h => h.2)) (fun _ h => h.1))
       have n1_:=Aside0.mk (KeepBut.blk hk (g':=gb112) (o := .cells #[.int .i64 0, .slice none 0 0, .int .i64 0] 38 (0,0)) (by exact BK112.out) NB112_0.out (by simp))
       have n2_:=Aside0.mk (KeepBut.blk hk (g':=gb125) (o := .cells #[.int .i64 t116, .slice Ao23 x126001_1.length co23, .int .i64 t122] 38 (0,0)) (by exact BK125.out) NB125_0.out (by simp))
       have n3_:=Aside0.mk (Kd.R_mono (Kd.R_keep (IsS58.apart (show IsS58 w0 _ g s0_0 x1001_1 x1002_1 from by exact HI0.out) (by exact HO137.out) (by decide)) hk (fun _ h => h.2)) (fun _ h => h.1))
       have n4_:=Aside0.mk (Kd.R_mono (Kd.R_keep (IsS58.apart (show IsS58 w0 _ g s0_0 x1001_1 x1002_1 from by exact HI0.out) (by exact HO131.out) (by decide)) hk (fun _ h => h.2)) (fun _ h => h.1))
       have n5_:=Aside0.mk (KeepBut.trans (by exact HK.out) hk (.inl rfl))
       have n6_:=Aside0.mk (hb)
       have n7_:=Aside0.mk (hi)
       clear HO_126001
       clear BK112
       clear BK125
       clear HO137
       clear HO131
       clear HK
       clear HB
       clear HI0
       have HO_126001:=n0_
       have BK112:=n1_
       have BK125:=n2_
       have HO137:=n3_
       have HO131:=n4_
       have HK:=n5_
       have HB:=n6_
       have HI0:=n7_
       clear n0_ n1_ n2_ n3_ n4_ n5_ n6_ n7_
       (try clear hb)
       (skip)
       (try clear hk)
       (try clear hi)
       refine hK.out _ _ ⟨(blk_cell BK125.out 0).trans rfl,(blk_cell BK125.out 1).trans rfl,(blk_cell BK125.out 2).trans rfl⟩ (fun hHeld => ?_)
       clear hK K
       refine norm_ (a':=?_) ?_ ?_
       rotate_left
       ·show Act.put _ (some 25) _ = _
        simp only [Act.put,sA_,s0_,s1_,i64_w,i32_w]
        rfl
       exact norm_ (by simp only [putAll,Act.put,sA_,s0_,s1_]) (hCont (.slice Ao29 y129.length co29,v136) _ ⟨hHeld,(by exact Kd.R_mono HO131.out (fun _ hk => hk.2)),(by exact Kd.R_mono HO137.out (fun _ hk => hk.2)),(by exact HO_126001.out),(by exact BK112.out),(by exact BK125.out),(by exact HI0.out),(by exact HK.out),(by exact HB.out)⟩)
     rintro ⟨v130,v136⟩ w31 ⟨hS_,h0_,h1_,h2_,h3_,h4_,h5_,h6_,h7_⟩
     have n0_ : Aside0 (Kd.R (Kd.int .i64) 3 w31 w.heap.size (fun k_ => some k_ ≠ (v136 : Value).ownBlock) v130 y129):=⟨h0_⟩
     have n1_ : Aside0 (Kd.R (Kd.int .i64) 3 w31 w.heap.size (fun k_ => some k_ ≠ (v130 : Value).ownBlock) v136 y135):=⟨h1_⟩
     have n2_ : Aside0 (Kd.R k51 51 w31 w.heap.size (fun _ => True) (.slice Ao23 x126001_1.length co23) x126001_1):=⟨h2_⟩
     have n3_ : Aside0 (w31.heap[gb112]? = some (.cells #[.int .i64 0, .slice none 0 0, .int .i64 0] 38 (0,0))):=⟨h3_⟩
     have n4_ : Aside0 (w31.heap[gb125]? = some (.cells #[.int .i64 t116, .slice Ao23 x126001_1.length co23, .int .i64 t122] 38 (0,0))):=⟨h4_⟩
     have n5_ : Aside0 (IsS58 w0 w31 g s0_0 t133 t134):=⟨h5_⟩
     have n6_ : Aside0 (KeepBut w w31 g none):=⟨h6_⟩
     have n7_ : Aside0 (Below w0.heap.size w0 w31):=⟨h7_⟩
     clear HO_126001
     clear BK112
     clear BK125
     clear HI0
     clear HK
     clear HB
     clear h0_ h1_ h2_ h3_ h4_ h5_ h6_ h7_
     have HO131:=n0_
     have HO137:=n1_
     have HO_126001:=n2_
     have BK112:=n3_
     have BK125:=n4_
     have HI0:=n5_
     have HK:=n6_
     have HB:=n7_
     clear n0_ n1_ n2_ n3_ n4_ n5_ n6_ n7_
     have hHeld : w31.cell? ⟨gb125,0,none⟩ = some (.int .i64 t116) ∧ w31.cell? ⟨gb125,1,none⟩ = some (.slice Ao23 x126001_1.length co23) ∧ w31.cell? ⟨gb125,2,none⟩ = some (.int .i64 t122):=hS_
     obtain ⟨Ao32,co32,eo32⟩ := Kd.R_slice HO137.out
     (subst eo32)
     refine norm_ (a':=?_) ?_ ?_
     rotate_left
     ·simp only [putAll,Act.put,sA_,s0_,s1_]
      rfl
     refine one_ (i:=7) (N:=some 28) #[true,true,true,true,true,true,true,true,false,false,false,false,false] rfl rfl (one_of HT_.out (by kernel_rfl)) (by decide) (fun K hK => ?_)
     refine goes_ Try.func36 (by kernel_rfl) rfl #[.pointer (some ⟨g,0,none⟩), .slice Ao32 y135.length co32] (by rfl) rfl rfl (by (try simp only [List.map_toArray,List.map_cons,List.map_nil]);rfl) ?_
     with_reducible refine (spec_l1Cur_among.calls g s0_0 t133 t134 _ _ y135 t138 t139 t140 w0 _ ?side1 ?side2 ?side3 ?side4 ?side5 A21.out).mono ?_
     (case side1 => exact HI0.out)
     (case side2 => exact HB.out)
     (case side3 => repeat (exact (Kd.R_reads' HO137.out).2.2))
     (case side4 => exact (Kd.R_reads' HO137.out).2.1)
     (case side5 => exact far_slice (IsS58.own_ne HI0.out HO137.out (by decide)))
     rintro e w33 ⟨rfl,hi,hb,hk⟩
     refine ⟨_,rfl, ?_⟩
     have n0_:=Aside0.mk (Kd.R_mono (Kd.R_keep (IsS58.apart (show IsS58 w0 _ g s0_0 t133 t134 from by exact HI0.out) (by exact HO_126001.out) (by decide)) hk (fun _ h => h.2)) (fun _ h => h.1))
     have n1_:=Aside0.mk (KeepBut.blk hk (g':=gb112) (o := .cells #[.int .i64 0, .slice none 0 0, .int .i64 0] 38 (0,0)) (by exact BK112.out) NB112_0.out (by simp))
     have n2_:=Aside0.mk (KeepBut.blk hk (g':=gb125) (o := .cells #[.int .i64 t116, .slice Ao23 x126001_1.length co23, .int .i64 t122] 38 (0,0)) (by exact BK125.out) NB125_0.out (by simp))
     have n3_:=Aside0.mk (Kd.R_mono (Kd.R_keep (IsS58.apart (show IsS58 w0 _ g s0_0 t133 t134 from by exact HI0.out) (by exact HO131.out) (by decide)) hk (fun _ h => h.2)) (fun _ h => h.1))
     have n4_:=Aside0.mk (Kd.R_mono (Kd.R_keep (IsS58.apart (show IsS58 w0 _ g s0_0 t133 t134 from by exact HI0.out) (by exact HO137.out) (by decide)) hk (fun _ h => h.2)) (fun _ h => h.1))
     have n5_:=Aside0.mk (KeepBut.trans (by exact HK.out) hk (.inl rfl))
     have n6_:=Aside0.mk (hb)
     have n7_:=Aside0.mk (hi)
     clear HO_126001
     clear BK112
     clear BK125
     clear HO131
     clear HO137
     clear HK
     clear HB
     clear HI0
     have HO_126001:=n0_
     have BK112:=n1_
     have BK125:=n2_
     have HO131:=n3_
     have HO137:=n4_
     have HK:=n5_
     have HB:=n6_
     have HI0:=n7_
     clear n0_ n1_ n2_ n3_ n4_ n5_ n6_ n7_
     (try clear hb)
     (skip)
     (try clear hk)
     (try clear hi)
     refine hK.out _ _ ⟨(blk_cell BK125.out 0).trans rfl,(blk_cell BK125.out 1).trans rfl,(blk_cell BK125.out 2).trans rfl⟩ (fun hHeld => ?_)
     clear hK K
     refine norm_ (a':=?_) ?_ ?_
     rotate_left
     ·show Act.put _ (some 28) _ = _
      simp only [Act.put,sA_,s0_,s1_,i64_w,i32_w]
      rfl
     refine pure_ (i:=8) (N:=some 29) (v:=?_) (a':=?_) #[true,true,true,true,true,true,true,true,true,false,false,false,false] rfl rfl (any_of HT_.out (by kernel_rfl)) (fun _ _ _ h => h) (Or.inl ⟨by rfl, ?_⟩) ?_ ?_
     rotate_left
     ·intro w'
      go_simp
      with_reducible rfl
     rotate_left
     ·simp only [Act.put,sA_,s0_,s1_,i64_w,i32_w]
      rfl
     refine one_ (i:=9) (N:=some 30) #[true,true,true,true,true,true,true,true,true,true,false,false,false] rfl rfl (one_of HT_.out (by kernel_rfl)) (by decide) (fun K hK => ?_)
     refine value_ (w1:=?_) (v:=?_) (by rfl) rfl ?_ ?_
     rotate_left 2
     ·go_simp
      constructor
      ·rfl
      ·rfl
     refine hK.out _ _ ⟨(blk_cell (blk_alloc BK125.out _) 0).trans rfl,(blk_cell (blk_alloc BK125.out _) 1).trans rfl,(blk_cell (blk_alloc BK125.out _) 2).trans rfl⟩ (fun hHeld => ?_)
     clear hK K
     refine norm_ (a':=?_) ?_ ?_
     rotate_left
     ·show Act.put _ (some 30) _ = _
      simp only [Act.put,sA_,s0_,s1_,i64_w,i32_w]
      rfl
     refine one_ (i:=10) (N:=some 31) #[true,true,true,true,true,true,true,true,true,true,true,false,false] rfl rfl (one_of HT_.out (by kernel_rfl)) (by decide) (fun K hK => ?_)
     refine Kd.R_append_step k51 w.heap.size (by rfl) (.tmp 22) (.tmp 30) 36 51 (.agg #[(.int .i64 0),(.int .i64 0)]) 16 rfl Try.underlying36 info51 rfl (by decide) (by omega) (.slice Ao23 x126001_1.length co23) x126001_1 (⟨t132,t138⟩ : S51) [.int .i64 t132, .int .i64 t138] (fun _ => True) (fun _ => False) rfl rfl ?aP (fun _ hk => hk.elim) ?aF ?aO (Below.refl _ _) ?aS ?aL ?_
     (case aP => exact k51_mkM _ _ _ (⟨t132,t138⟩ : S51))
     (case aF => exact (fun _ _ => trivial))
     (case aO => exact (by exact HO_126001.out))
     (case aS => exact (keep_size (w:=w) (g:=g) (row:=none) (by exact HK.out)))
     (case aL => have:=LMc22.out;omega)
     intro v142 w34 ho hb hg hat
     rw [← Ny141.out] at ho
     have n0_:=Aside0.mk (blk_grown (g:=gb112) (o := .cells #[.int .i64 0, .slice none 0 0, .int .i64 0] 38 (0,0)) (by exact BK112.out) hg (Kd.R_ne HO_126001.out BK112.out (by decide)))
     have n1_:=Aside0.mk (blk_grown (g:=gb125) (o := .cells #[.int .i64 t116, .slice Ao23 x126001_1.length co23, .int .i64 t122] 38 (0,0)) (by exact BK125.out) hg (Kd.R_ne HO_126001.out BK125.out (by decide)))
     have n2_:=Aside0.mk (IsS58.grown (by exact HI0.out) hg (IsS58.own_ne HI0.out HO_126001.out (by decide)))
     have n3_:=Aside0.mk (Kd.R_over' (by exact HO131.out) (Kd.R_typed (by exact HO_126001.out)) (by decide) hg)
     have n4_:=Aside0.mk (Kd.R_over' (by exact HO137.out) (Kd.R_typed (by exact HO_126001.out)) (by decide) hg)
     have n5_:=Aside0.mk (below_weaken (by exact HB.out) HL.out hb)
     have n6_:=Aside0.mk (KeepBut.trans (by exact HK.out) (KeepBut.of_grown hg g) (Kd.R_base2 HO_126001.out))
     have n7_:=Aside0.mk (ho)
     clear BK112
     clear BK125
     clear HI0
     clear HO131
     clear HO137
     clear HB
     clear HK
     clear HO_126001
     have BK112:=n0_
     have BK125:=n1_
     have HI0:=n2_
     have HO131:=n3_
     have HO137:=n4_
     have HB:=n5_
     have HK:=n6_
     have HO143:=n7_
     clear n0_ n1_ n2_ n3_ n4_ n5_ n6_ n7_
     clear ho hb hg hat
     obtain ⟨Ao35,co35,eo35⟩ := Kd.R_slice HO143.out
     (subst eo35)
     refine hK.out _ _ ⟨(blk_cell BK125.out 0).trans rfl,(blk_cell BK125.out 1).trans rfl,(blk_cell BK125.out 2).trans rfl⟩ (fun hHeld => ?_)
     clear hK K
     refine norm_ (a':=?_) ?_ ?_
     rotate_left
     ·show Act.put _ (some 31) _ = _
      simp only [Act.put,sA_,s0_,s1_,i64_w,i32_w]
      rfl
     refine pure_ (i:=11) (N:=some 32) (v:=?_) (a':=?_) #[true,true,true,true,true,true,true,true,true,true,true,true,false] rfl rfl (any_of HT_.out (by kernel_rfl)) (fun _ _ _ h => h) (Or.inl ⟨by rfl, ?_⟩) ?_ ?_
     rotate_left
     ·intro w'
      go_simp
      with_reducible rfl
     rotate_left
     ·simp only [Act.put,sA_,s0_,s1_,i64_w,i32_w]
      rfl
     refine last_ (i:=12) (N:=none) #[true,true,true,true,true,true,true,true,true,true,true,true,true] rfl rfl (one_of HT_.out (by kernel_rfl)) (by decide) (fun K hK => ?_)
     have hs36 : w34.cell? ⟨gb125,1,none⟩ = some (.slice Ao23 x126001_1.length co23):=(blk_cell BK125.out 1).trans rfl
     have hfs36:=blk_frozen BK125.out 1
     have hns36_0:=NB112_125.out
     have hms36_0:=NB125_112.out
     refine skip_ (w1:=?_) (by rfl) rfl ?_ ?_
     rotate_left
     ·go_simp
      rfl
     refine hK.out _ _ ?_
     clear hK K
     refine done_ (done_of HT_.out (by kernel_rfl)) ?_
     try go_wp2
     go_roundg k1
     case measure => have:=HK1.out;omega
     case rel => exact ⟨(wrap64 (x4_1 - 1)),(t139),(t140),(y141),(.slice Ao35 y141.length co35),(by rfl),H',⟨by have:=HK1.out;omega⟩,⟨by exact Kd.R_mono (Kd.R_far (p:=⟨gb125,1,none⟩) (Kd.R_types HO143.out BK125.out (by decide)) (fun _ hk => hk.2) (.slice Ao35 y141.length co35)) (fun _ hk => trivial)⟩,⟨by refine blk_far ?_ NB112_125.out _;exact BK112.out⟩,⟨by refine blk_put (cs:=#[.int .i64 t116, .slice Ao23 x126001_1.length co23, .int .i64 t122]) ?_ 1 _ rfl;exact BK125.out⟩,⟨by repeat ((with_reducible first | exact HI0.out | refine IsS58.far ?_ NB0_125.out _))⟩,⟨by repeat ((with_reducible first | exact HK.out | refine keep_far ?_ GW125.out _))⟩,⟨by repeat ((with_reducible first | exact HB.out | refine below_set ?_ GE125.out))⟩⟩
    ·rw [if_neg c22] at H
     exact absurd H (by simp)
   ·rw [if_neg c19] at H
    have c19b0 : decide (0 < x4_1) = false:=decide_eq_false c19
    clear c19
    replace H:=Option.bind_eq_some_iff.mp H
    obtain ⟨⟨t144,t145,t146⟩,A370,H⟩ := H
    replace H : (if 0 ≤ t144 then (if t144 < (x126001_1.length : Int) then ((spec_l1Cur_pick.f s0_0 t145 t146 40).bind fun bt149 => (if bt149.1 = 0 then ((spec_l1Cur_among.f s0_0 bt149.2.1 bt149.2.2 (([(-1),31] : List Int))).bind fun bt155 => (some (bt155.1,(x126001_1.set (t144 : Int).toNat (⟨(rd_T51 x126001_1 t144).f0,(rd_T51 x126001_1 t144).f1⟩ : S51)),t122,bt155.2.1,bt155.2.2))) else (if bt149.1 = 1 then ((spec_l1Cur_among.f s0_0 bt149.2.1 bt149.2.2 (([99,301] : List Int))).bind fun bt162 => (some (t116,(x126001_1.set (t144 : Int).toNat (⟨(rd_T51 x126001_1 t144).f0,(rd_T51 x126001_1 t144).f1⟩ : S51)),bt162.1,bt162.2.1,bt162.2.2))) else (if bt149.1 = 2 then ((spec_l1Cur_among.f s0_0 bt149.2.1 bt149.2.2 (([0,101] : List Int))).bind fun bt169 => (some (t116,(x126001_1.set (t144 : Int).toNat (⟨bt169.1,(rd_T51 x126001_1 t144).f1⟩ : S51)),t122,bt169.2.1,bt169.2.2))) else (if bt149.1 = 3 then ((spec_l1Cur_among.f s0_0 bt149.2.1 bt149.2.2 (([(-1),10001] : List Int))).bind fun bt176 => (some (t116,(x126001_1.set (t144 : Int).toNat (⟨(rd_T51 x126001_1 t144).f0,bt176.1⟩ : S51)),t122,bt176.2.1,bt176.2.2))) else (if bt149.1 = 4 then (spec_l1Cur_charge.l1 k1 t144 s0_0 bt149.2.1 bt149.2.2 t116 x126001_1 t122 ((rd_T51 x126001_1 t144).f0) ((rd_T51 x126001_1 t144).f1)) else (some (t116,(x126001_1.set (t144 : Int).toNat (⟨(rd_T51 x126001_1 t144).f0,(rd_T51 x126001_1 t144).f1⟩ : S51)),t122,bt149.2.1,bt149.2.2)))))))) else (none)) else (none)) = some (r1,r2,r3,r4,r5):=H
    have A37:=Aside0.mk A370
    clear A370
    by_cases c38 : 0 ≤ t144
    ·rw [if_pos c38] at H
     have c38b0 : decide (0 ≤ t144) = true:=decide_eq_true c38
     clear c38
     by_cases c39 : t144 < (x126001_1.length : Int)
     ·rw [if_pos c39] at H
      have c39b0 : decide (t144 < (x126001_1.length : Int)) = true:=decide_eq_true c39
      clear c39
      replace H:=Option.bind_eq_some_iff.mp H
      obtain ⟨⟨t149,t150,t151⟩,A400,H⟩ := H
      replace H : (if t149 = 0 then ((spec_l1Cur_among.f s0_0 t150 t151 (([(-1),31] : List Int))).bind fun bt155 => (some (bt155.1,(x126001_1.set (t144 : Int).toNat (⟨(rd_T51 x126001_1 t144).f0,(rd_T51 x126001_1 t144).f1⟩ : S51)),t122,bt155.2.1,bt155.2.2))) else (if t149 = 1 then ((spec_l1Cur_among.f s0_0 t150 t151 (([99,301] : List Int))).bind fun bt162 => (some (t116,(x126001_1.set (t144 : Int).toNat (⟨(rd_T51 x126001_1 t144).f0,(rd_T51 x126001_1 t144).f1⟩ : S51)),bt162.1,bt162.2.1,bt162.2.2))) else (if t149 = 2 then ((spec_l1Cur_among.f s0_0 t150 t151 (([0,101] : List Int))).bind fun bt169 => (some (t116,(x126001_1.set (t144 : Int).toNat (⟨bt169.1,(rd_T51 x126001_1 t144).f1⟩ : S51)),t122,bt169.2.1,bt169.2.2))) else (if t149 = 3 then ((spec_l1Cur_among.f s0_0 t150 t151 (([(-1),10001] : List Int))).bind fun bt176 => (some (t116,(x126001_1.set (t144 : Int).toNat (⟨(rd_T51 x126001_1 t144).f0,bt176.1⟩ : S51)),t122,bt176.2.1,bt176.2.2))) else (if t149 = 4 then (spec_l1Cur_charge.l1 k1 t144 s0_0 t150 t151 t116 x126001_1 t122 ((rd_T51 x126001_1 t144).f0) ((rd_T51 x126001_1 t144).f1)) else (some (t116,(x126001_1.set (t144 : Int).toNat (⟨(rd_T51 x126001_1 t144).f0,(rd_T51 x126001_1 t144).f1⟩ : S51)),t122,t150,t151))))))) = some (r1,r2,r3,r4,r5):=H
      have A40:=Aside0.mk A400
      clear A400
      by_cases c41 : t149 = 0
      ·rw [if_pos c41] at H
       have c41b0 : (t149 == 0) = true:=beq_iff_eq.mpr c41
       have c41b1 : (t149 != 0) = false:=bne_eq_false_iff_eq.mpr c41
       clear c41
       obtain ⟨y152,hy152⟩ : ∃ y_ : List Int,y_ = (([(-1),31] : List Int)):=⟨_,rfl⟩
       replace H : ((spec_l1Cur_among.f s0_0 t150 t151 y152).bind fun bt155 => (some (bt155.1,(x126001_1.set (t144 : Int).toNat (⟨(rd_T51 x126001_1 t144).f0,(rd_T51 x126001_1 t144).f1⟩ : S51)),t122,bt155.2.1,bt155.2.2))) = some (r1,r2,r3,r4,r5):=by (rw [hy152];with_reducible exact H)
       have Ny152:=Aside0.mk hy152
       clear hy152
       replace H:=Option.bind_eq_some_iff.mp H
       obtain ⟨⟨t155,t156,t157⟩,A420,H⟩ := H
       replace H : (some (t155,(x126001_1.set (t144 : Int).toNat (⟨(rd_T51 x126001_1 t144).f0,(rd_T51 x126001_1 t144).f1⟩ : S51)),t122,t156,t157)) = some (r1,r2,r3,r4,r5):=H
       have A42:=Aside0.mk A420
       clear A420
       obtain ⟨y158,hy158⟩ : ∃ y_ : List (S51),y_ = (x126001_1.set (t144 : Int).toNat (⟨(rd_T51 x126001_1 t144).f0,(rd_T51 x126001_1 t144).f1⟩ : S51)):=⟨_,rfl⟩
       replace H : (some (t155,y158,t122,t156,t157)) = some (r1,r2,r3,r4,r5):=by (rw [hy158];with_reducible exact H)
       have Ny158:=Aside0.mk hy158
       clear hy158
       simp only [Option.some.injEq,Prod.mk.injEq] at H
       obtain ⟨rfl,rfl,rfl,rfl,rfl⟩ := H
       have hnb44:=NB125_112.out
       have hnc44:=NB112_125.out
       have hnb45:=NB125_0.out
       have hnc45:=NB0_125.out
       have hcz46_0 : wr.cell? ⟨gb125,0,none⟩ = some (.int .i64 t116):=(blk_cell BK125.out 0).trans rfl
       have hcz46_1 : wr.cell? ⟨gb125,1,none⟩ = some (u126001):=(blk_cell BK125.out 1).trans rfl
       have hcz46_2 : wr.cell? ⟨gb125,2,none⟩ = some (.int .i64 t122):=(blk_cell BK125.out 2).trans rfl
       have hfz46_0:=blk_frozen BK125.out 0
       have hfz46_1:=blk_frozen BK125.out 1
       have hfz46_2:=blk_frozen BK125.out 2
       obtain ⟨Ao47,co47,eo47⟩ := Kd.R_slice HO_126001.out
       subst eo47
       go_wp2_with (first | ((with_reducible refine gate_callee (f:=33) rfl ?_);refine goesL_ (some 37) rfl rfl Try.func33 (by kernel_rfl) rfl #[.pointer (some ⟨g,0,none⟩), .int .i64 (x126001_1.length : Int)] rfl (by (try simp only [List.map_toArray,List.map_cons,List.map_nil]);rfl) ?_;(with_reducible refine (spec_l1Cur_pick.calls g s0_0 x1001_1 x1002_1 (x126001_1.length : Int) t144 t145 t146 w0 _ ?side1 ?side2 A37.out).mono ?_);(case side1 => exact HI0.out);(case side2 => exact HB.out);rintro e w48 ⟨rfl,hi,hb,hk⟩;refine ⟨_,rfl, ?_⟩;have n0_:=Aside0.mk (Kd.R_mono (Kd.R_keep (IsS58.apart (show IsS58 w0 _ g s0_0 x1001_1 x1002_1 from by exact HI0.out) (by exact HO_126001.out) (by decide)) hk (fun _ h => h.2)) (fun _ h => h.1));have n1_:=Aside0.mk (KeepBut.blk hk (g':=gb112) (o := .cells #[.int .i64 0, .slice none 0 0, .int .i64 0] 38 (0,0)) (by exact BK112.out) NB112_0.out (by simp));have n2_:=Aside0.mk (KeepBut.blk hk (g':=gb125) (o := .cells #[.int .i64 t116, .slice Ao47 x126001_1.length co47, .int .i64 t122] 38 (0,0)) (by exact BK125.out) NB125_0.out (by simp));have n3_:=Aside0.mk (KeepBut.trans (by exact HK.out) hk (.inl rfl));have n4_:=Aside0.mk (hb);have n5_:=Aside0.mk (hi);clear HO_126001;clear BK112;clear BK125;clear HK;clear HB;clear HI0;have HO_126001:=n0_;have BK112:=n1_;have BK125:=n2_;have HK:=n3_;have HB:=n4_;have HI0:=n5_;clear n0_ n1_ n2_ n3_ n4_ n5_;(try clear hb);(try clear hk);(try clear hi);have hcz49_0 : w48.cell? ⟨gb125,0,none⟩ = some (.int .i64 t116):=(blk_cell BK125.out 0).trans rfl;have hcz49_1 : w48.cell? ⟨gb125,1,none⟩ = some (.slice Ao47 x126001_1.length co47):=(blk_cell BK125.out 1).trans rfl;have hcz49_2 : w48.cell? ⟨gb125,2,none⟩ = some (.int .i64 t122):=(blk_cell BK125.out 2).trans rfl;have hfz49_0:=blk_frozen BK125.out 0;have hfz49_1:=blk_frozen BK125.out 1;have hfz49_2:=blk_frozen BK125.out 2;have p147 : 0 ≤ (t144 : Int):=of_decide_eq_true (by (with_reducible assumption));have q147 : t144 < (x126001_1.length : Int):=of_decide_eq_true (by (with_reducible assumption));obtain ⟨ad147,e147,hx147_0,hx147_1⟩ := at_T51 (Kd.R_reads' HO_126001.out).2.2 t144 p147 q147;cases e147;replace p147:=eq_true p147;replace q147:=eq_true q147) | ((with_reducible refine gate_dst (N:=6) rfl ?_);refine box_event ?hg (N:=6) ?hd (cs:=#[.int .i64 0, .int .i64 0]) (t:=51) ?hr ?_;(case hd => rfl);(case hg => rfl);(case hr => (go_simp;done));intro gb148 hg w50 hbox hb;have n0_:=Aside0.mk (Kd.R_below (Kd.R_elderB (by exact HO_126001.out) gb148 (Nat.le_of_eq hg.symm)) hb);have n1_:=Aside0.mk (blk_below (g:=gb112) (o := .cells #[.int .i64 0, .slice none 0 0, .int .i64 0] 38 (0,0)) (by exact BK112.out) hb);have n2_:=Aside0.mk (blk_below (g:=gb125) (o := .cells #[.int .i64 t116, .slice (some ad147) x126001_1.length co47, .int .i64 t122] 38 (0,0)) (by exact BK125.out) hb);have n3_:=Aside0.mk (IsS58.below (by exact HI0.out) hb);have n4_:=Aside0.mk (KeepBut.trans (by exact HK.out) (KeepBut.of_below hb g none) (.inl rfl));have n5_:=Aside0.mk (below_step (by exact HB.out) hb);have n6_:=Aside0.mk (hbox);have n7_:=Aside0.mk ((by rw [hg];exact (keep_size (w:=w) (g:=g) (row:=none) (by exact HK.out)) : w.heap.size ≤ gb148));have n8_:=Aside0.mk ((Nat.le_trans HW0.out (by rw [hg];exact (keep_size (w:=w) (g:=g) (row:=none) (by exact HK.out)) : w.heap.size ≤ gb148) : w0.heap.size ≤ gb148));have n9_:=Aside0.mk ((by rw [hg];exact Nat.ne_of_lt (blk_lt (g:=gb112) (o := .cells #[.int .i64 0, .slice none 0 0, .int .i64 0] 38 (0,0)) (by exact BK112.out)) : gb112 ≠ gb148));have n10_:=Aside0.mk ((by rw [hg];exact Nat.ne_of_gt (blk_lt (g:=gb112) (o := .cells #[.int .i64 0, .slice none 0 0, .int .i64 0] 38 (0,0)) (by exact BK112.out)) : gb148 ≠ gb112));have n11_:=Aside0.mk ((by rw [hg];exact Nat.ne_of_lt (blk_lt (g:=gb125) (o := .cells #[.int .i64 t116, .slice (some ad147) x126001_1.length co47, .int .i64 t122] 38 (0,0)) (by exact BK125.out)) : gb125 ≠ gb148));have n12_:=Aside0.mk ((by rw [hg];exact Nat.ne_of_gt (blk_lt (g:=gb125) (o := .cells #[.int .i64 t116, .slice (some ad147) x126001_1.length co47, .int .i64 t122] 38 (0,0)) (by exact BK125.out)) : gb148 ≠ gb125));have n13_:=Aside0.mk ((by rw [hg];exact Nat.ne_of_lt (IsS58.lt (show IsS58 w0 _ g s0_0 t145 t146 from by exact HI0.out)) : g ≠ gb148));have n14_:=Aside0.mk ((by rw [hg];exact Nat.ne_of_gt (IsS58.lt (show IsS58 w0 _ g s0_0 t145 t146 from by exact HI0.out)) : gb148 ≠ g));clear HO_126001;clear BK112;clear BK125;clear HI0;clear HK;clear HB;have HO_126001:=n0_;have BK112:=n1_;have BK125:=n2_;have HI0:=n3_;have HK:=n4_;have HB:=n5_;have BK148:=n6_;have GW148:=n7_;have GE148:=n8_;have NB112_148:=n9_;have NB148_112:=n10_;have NB125_148:=n11_;have NB148_125:=n12_;have NB0_148:=n13_;have NB148_0:=n14_;clear n0_ n1_ n2_ n3_ n4_ n5_ n6_ n7_ n8_ n9_ n10_ n11_ n12_ n13_ n14_;clear hb hbox hg;have hnb51:=NB148_112.out;have hnc51:=NB112_148.out;have hnb52:=NB148_125.out;have hnc52:=NB125_148.out;have hnb53:=NB148_0.out;have hnc53:=NB0_148.out;have hcz54_0 : w50.cell? ⟨gb148,0,none⟩ = some (.int .i64 0):=(blk_cell BK148.out 0).trans rfl;have hcz54_1 : w50.cell? ⟨gb148,1,none⟩ = some (.int .i64 0):=(blk_cell BK148.out 1).trans rfl;have hfz54_0:=blk_frozen BK148.out 0;have hfz54_1:=blk_frozen BK148.out 1) | ((with_reducible refine gate_callee (f:=33) rfl ?_);refine goesL_ (some 44) rfl rfl Try.func33 (by kernel_rfl) rfl #[.pointer (some ⟨g,0,none⟩), .int .i64 40] rfl (by (try simp only [List.map_toArray,List.map_cons,List.map_nil]);rfl) ?_;(with_reducible refine (spec_l1Cur_pick.calls g s0_0 t145 t146 40 t149 t150 t151 w0 _ ?side1 ?side2 A40.out).mono ?_);(case side1 => repeat ((with_reducible first | exact HI0.out | refine IsS58.far ?_ NB0_148.out _)));(case side2 => repeat ((with_reducible first | exact HB.out | refine below_set ?_ GE148.out)));rintro e w55 ⟨rfl,hi,hb,hk⟩;refine ⟨_,rfl, ?_⟩;have n0_:=Aside0.mk (Kd.R_mono (Kd.R_keep (IsS58.apart (show IsS58 w0 _ g s0_0 t145 t146 from by repeat ((with_reducible first | exact HI0.out | refine IsS58.far ?_ NB0_148.out _))) (by exact (Kd.R_mono (Kd.R_far (p:=⟨gb148,1,none⟩) (Kd.R_far (p:=⟨gb148,0,none⟩) (Kd.R_mono HO_126001.out (fun k_ hk => (⟨hk,hk.2⟩ : _ ∧ k_ ≠ gb148))) (fun _ hk => hk.2) (.int .i64 ((rd_T51 x126001_1 t144).f0))) (fun _ hk => hk.2) (.int .i64 ((rd_T51 x126001_1 t144).f1))) (fun _ h_ => h_.1))) (by decide)) hk (fun _ h => h.2)) (fun _ h => h.1));have n1_:=Aside0.mk (KeepBut.blk hk (g':=gb112) (o := .cells #[.int .i64 0, .slice none 0 0, .int .i64 0] 38 (0,0)) (by refine blk_far ?_ NB112_148.out _;refine blk_far ?_ NB112_148.out _;exact BK112.out) NB112_0.out (by simp));have n2_:=Aside0.mk (KeepBut.blk hk (g':=gb125) (o := .cells #[.int .i64 t116, .slice (some ad147) x126001_1.length co47, .int .i64 t122] 38 (0,0)) (by refine blk_far ?_ NB125_148.out _;refine blk_far ?_ NB125_148.out _;exact BK125.out) NB125_0.out (by simp));have n3_:=Aside0.mk (KeepBut.blk hk (g':=gb148) (o := .cells #[.int .i64 ((rd_T51 x126001_1 t144).f0), .int .i64 ((rd_T51 x126001_1 t144).f1)] 51 (0,0)) (by refine blk_put (cs:=#[.int .i64 ((rd_T51 x126001_1 t144).f0), .int .i64 0]) ?_ 1 _ rfl;refine blk_put (cs:=#[.int .i64 0, .int .i64 0]) ?_ 0 _ rfl;exact BK148.out) NB148_0.out (by simp));have n4_:=Aside0.mk (KeepBut.trans (by repeat ((with_reducible first | exact HK.out | refine keep_far ?_ GW148.out _))) hk (.inl rfl));have n5_:=Aside0.mk (hb);have n6_:=Aside0.mk (hi);clear HO_126001;clear BK112;clear BK125;clear BK148;clear HK;clear HB;clear HI0;have HO_126001:=n0_;have BK112:=n1_;have BK125:=n2_;have BK148:=n3_;have HK:=n4_;have HB:=n5_;have HI0:=n6_;clear n0_ n1_ n2_ n3_ n4_ n5_ n6_;(try clear hb);(try clear hk);(try clear hi)) | ((with_reducible refine gate_dst (N:=48) rfl ?_);refine Kd.R_lit (Kd.int .i64) _ 3 ?hg (N:=48) ?hd (xs:=([(-1),31] : List Int)) (inner := [.int .i64 (-1), .int .i64 31]) (ok:=fun _ => True) (okp:=fun _ => True) ?hr ?hp (fun _ hk => hk) trivial (Below.refl _ _) (Nat.le_refl _) (by simp) ?_;(case hd => rfl);(case hg => rfl);(case hr => (go_simp;done));(case hp => exact (Reps.one (show Kd.M (Kd.int .i64) _ _ _ (-1) [.int .i64 (-1)] from rfl) (Reps.one (show Kd.M (Kd.int .i64) _ _ _ 31 [.int .i64 31] from rfl) (Reps.none _ _))));intro v153 w56 ho57 hb hg_ hnew_;clear hg_ hnew_;(rw [← Ny152.out] at ho57);have n0_:=Aside0.mk (Kd.R_below (by exact HO_126001.out) hb);have n1_:=Aside0.mk (Kd.R_lower ho57 (keep_size (w:=w) (g:=g) (row:=none) (by exact HK.out)));have n2_:=Aside0.mk (blk_below (g:=gb112) (o := .cells #[.int .i64 0, .slice none 0 0, .int .i64 0] 38 (0,0)) (by exact BK112.out) hb);have n3_:=Aside0.mk (blk_below (g:=gb125) (o := .cells #[.int .i64 t116, .slice (some ad147) x126001_1.length co47, .int .i64 t122] 38 (0,0)) (by exact BK125.out) hb);have n4_:=Aside0.mk (IsS58.below (by exact HI0.out) hb);have n5_:=Aside0.mk (blk_below (g:=gb148) (o := .cells #[.int .i64 ((rd_T51 x126001_1 t144).f0), .int .i64 ((rd_T51 x126001_1 t144).f1)] 51 (0,0)) (by exact BK148.out) hb);have n6_:=Aside0.mk (KeepBut.trans (by exact HK.out) (KeepBut.of_below hb g none) (.inl rfl));have n7_:=Aside0.mk (below_step (by exact HB.out) hb);clear HO_126001;clear BK112;clear BK125;clear HI0;clear BK148;clear HK;clear HB;have HO_126001:=n0_;have HO154:=n1_;have BK112:=n2_;have BK125:=n3_;have HI0:=n4_;have BK148:=n5_;have HK:=n6_;have HB:=n7_;clear n0_ n1_ n2_ n3_ n4_ n5_ n6_ n7_;clear hb ho57;obtain ⟨Ao58,co58,eo58⟩ := Kd.R_slice HO154.out;subst eo58) | ((with_reducible refine gate_callee (f:=36) rfl ?_);refine goesL_ (some 49) rfl rfl Try.func36 (by kernel_rfl) rfl #[.pointer (some ⟨g,0,none⟩), .slice Ao58 y152.length co58] rfl (by (try simp only [List.map_toArray,List.map_cons,List.map_nil]);rfl) ?_;(with_reducible refine (spec_l1Cur_among.calls g s0_0 t150 t151 _ _ y152 t155 t156 t157 w0 _ ?side1 ?side2 ?side3 ?side4 ?side5 A42.out).mono ?_);(case side1 => exact HI0.out);(case side2 => exact HB.out);(case side3 => repeat (exact (Kd.R_reads' HO154.out).2.2));(case side4 => exact (Kd.R_reads' HO154.out).2.1);(case side5 => exact far_slice (IsS58.own_ne HI0.out HO154.out (by decide)));rintro e w59 ⟨rfl,hi,hb,hk⟩;refine ⟨_,rfl, ?_⟩;have n0_:=Aside0.mk (Kd.R_mono (Kd.R_keep (IsS58.apart (show IsS58 w0 _ g s0_0 t150 t151 from by exact HI0.out) (by exact HO_126001.out) (by decide)) hk (fun _ h => h.2)) (fun _ h => h.1));have n1_:=Aside0.mk (KeepBut.blk hk (g':=gb112) (o := .cells #[.int .i64 0, .slice none 0 0, .int .i64 0] 38 (0,0)) (by exact BK112.out) NB112_0.out (by simp));have n2_:=Aside0.mk (KeepBut.blk hk (g':=gb125) (o := .cells #[.int .i64 t116, .slice (some ad147) x126001_1.length co47, .int .i64 t122] 38 (0,0)) (by exact BK125.out) NB125_0.out (by simp));have n3_:=Aside0.mk (KeepBut.blk hk (g':=gb148) (o := .cells #[.int .i64 ((rd_T51 x126001_1 t144).f0), .int .i64 ((rd_T51 x126001_1 t144).f1)] 51 (0,0)) (by exact BK148.out) NB148_0.out (by simp));have n4_:=Aside0.mk (Kd.R_mono (Kd.R_keep (IsS58.apart (show IsS58 w0 _ g s0_0 t150 t151 from by exact HI0.out) (by exact HO154.out) (by decide)) hk (fun _ h => h.2)) (fun _ h => h.1));have n5_:=Aside0.mk (KeepBut.trans (by exact HK.out) hk (.inl rfl));have n6_:=Aside0.mk (hb);have n7_:=Aside0.mk (hi);clear HO_126001;clear BK112;clear BK125;clear BK148;clear HO154;clear HK;clear HB;clear HI0;have HO_126001:=n0_;have BK112:=n1_;have BK125:=n2_;have BK148:=n3_;have HO154:=n4_;have HK:=n5_;have HB:=n6_;have HI0:=n7_;clear n0_ n1_ n2_ n3_ n4_ n5_ n6_ n7_;(try clear hb);(try clear hk);(try clear hi);have hcz60_0 : w59.cell? ⟨gb125,0,none⟩ = some (.int .i64 t116):=(blk_cell BK125.out 0).trans rfl;have hcz60_1 : w59.cell? ⟨gb125,1,none⟩ = some (.slice (some ad147) x126001_1.length co47):=(blk_cell BK125.out 1).trans rfl;have hcz60_2 : w59.cell? ⟨gb125,2,none⟩ = some (.int .i64 t122):=(blk_cell BK125.out 2).trans rfl;have hfz60_0:=blk_frozen BK125.out 0;have hfz60_1:=blk_frozen BK125.out 1;have hfz60_2:=blk_frozen BK125.out 2) | ((with_reducible refine gate_store (t:=3) (p:=50) rfl ?_);refine store_event (t:=3) (p:=50) (v:=?vo_w61) (w1:=(w59.setCell ⟨gb125,0,none⟩ (.int .i64 t155))) ?hg ?ho ?hn ?hr ?_;(case ho => rfl);(case hg => rfl);(case hn => rfl);(case hr => (go_simp;done));intro w61 hw;have n0_ : Aside0 (Kd.R k51 51 w61 w.heap.size (fun k_ => k_ ≠ gb148) (.slice (some ad147) x126001_1.length co47) x126001_1):=⟨(by rw [hw];exact (by exact Kd.R_mono (Kd.R_far (p:=⟨gb125,0,none⟩) (Kd.R_types HO_126001.out BK125.out (by decide)) (fun _ hk => hk.2) (.int .i64 t155)) (fun _ hk => hk.1.2)))⟩;have n1_ : Aside0 (Kd.R (Kd.int .i64) 3 w61 w.heap.size (fun _ => True) (.slice Ao58 y152.length co58) y152):=⟨(by rw [hw];exact (by exact Kd.R_mono (Kd.R_far (p:=⟨gb125,0,none⟩) (Kd.R_types HO154.out BK125.out (by decide)) (fun _ hk => hk.2) (.int .i64 t155)) (fun _ hk => trivial)))⟩;have n2_ : Aside0 (w61.heap[gb112]? = some (.cells #[.int .i64 0, .slice none 0 0, .int .i64 0] 38 (0,0))):=⟨(by rw [hw];exact (by refine blk_far ?_ NB112_125.out _;exact BK112.out))⟩;have n3_ : Aside0 (w61.heap[gb125]? = some (.cells #[.int .i64 t155, .slice (some ad147) x126001_1.length co47, .int .i64 t122] 38 (0,0))):=⟨(by rw [hw];exact (by refine blk_put (cs:=#[.int .i64 t116, .slice (some ad147) x126001_1.length co47, .int .i64 t122]) ?_ 0 _ rfl;exact BK125.out))⟩;have n4_ : Aside0 (w61.heap[gb148]? = some (.cells #[.int .i64 ((rd_T51 x126001_1 t144).f0), .int .i64 ((rd_T51 x126001_1 t144).f1)] 51 (0,0))):=⟨(by rw [hw];exact (by refine blk_far ?_ NB148_125.out _;exact BK148.out))⟩;have n5_ : Aside0 (IsS58 w0 w61 g s0_0 t156 t157):=⟨(by rw [hw];exact (by repeat ((with_reducible first | exact HI0.out | refine IsS58.far ?_ NB0_125.out _))))⟩;have n6_ : Aside0 (KeepBut w w61 g none):=⟨(by rw [hw];exact (by repeat ((with_reducible first | exact HK.out | refine keep_far ?_ GW125.out _))))⟩;have n7_ : Aside0 (Below w0.heap.size w0 w61):=⟨(by rw [hw];exact (by repeat ((with_reducible first | exact HB.out | refine below_set ?_ GE125.out))))⟩;clear hw;clear HO_126001;clear HO154;clear BK112;clear BK125;clear BK148;clear HI0;clear HK;clear HB;have HO_126001:=n0_;have HO154:=n1_;have BK112:=n2_;have BK125:=n3_;have BK148:=n4_;have HI0:=n5_;have HK:=n6_;have HB:=n7_;clear n0_ n1_ n2_ n3_ n4_ n5_ n6_ n7_;have hcz62_0 : w61.cell? ⟨gb125,0,none⟩ = some (.int .i64 t155):=(blk_cell BK125.out 0).trans rfl;have hcz62_1 : w61.cell? ⟨gb125,1,none⟩ = some (.slice (some ad147) x126001_1.length co47):=(blk_cell BK125.out 1).trans rfl;have hcz62_2 : w61.cell? ⟨gb125,2,none⟩ = some (.int .i64 t122):=(blk_cell BK125.out 2).trans rfl;have hfz62_0:=blk_frozen BK125.out 0;have hfz62_1:=blk_frozen BK125.out 1;have hfz62_2:=blk_frozen BK125.out 2;have hcz63_0 : w61.cell? ⟨gb148,0,none⟩ = some (.int .i64 ((rd_T51 x126001_1 t144).f0)):=(blk_cell BK148.out 0).trans rfl;have hcz63_1 : w61.cell? ⟨gb148,1,none⟩ = some (.int .i64 ((rd_T51 x126001_1 t144).f1)):=(blk_cell BK148.out 1).trans rfl;have hfz63_0:=blk_frozen BK148.out 0;have hfz63_1:=blk_frozen BK148.out 1;have p43 : 0 ≤ (t144 : Int):=of_decide_eq_true (by (with_reducible assumption));have q43 : (t144 : Int) < ((x126001_1.length : Int) : Int):=of_decide_eq_true (by (with_reducible assumption));obtain ⟨go43,co43,eo43,gb43,gl43,cl43,HG43⟩ := Kd.R_form HO_126001.out (by omega);(cases eo43);have GB43:=Aside0.mk gb43;have GG43:=Aside0.mk HG43;clear gb43 gl43 HG43;(simp only [add_plain] at hx147_0);(simp only [add_plain] at hx147_1);obtain ⟨ce43,hcl43,hM43,hcc43,hfr43⟩ := Kd.R_elem HO_126001.out z51 (t144 : Int) p43 q43;obtain rfl:=k51_openM hM43;have hx43_0 : w61.cell? ⟨go43,(t144 : Int).toNat * 2,none⟩ = some (.int .i64 ((rd_T51 x126001_1 t144).f0)):=hcc43 0 _ rfl;have hx43_1 : w61.cell? ⟨go43,(t144 : Int).toNat * 2 + 1,none⟩ = some (.int .i64 ((rd_T51 x126001_1 t144).f1)):=hcc43 1 _ rfl;have hf43_0 : w61.frozen? ⟨go43,(t144 : Int).toNat * 2,none⟩ = false:=hfr43 0;have hf43_1 : w61.frozen? ⟨go43,(t144 : Int).toNat * 2 + 1,none⟩ = false:=hfr43 1;clear hcl43 hcc43 hfr43;(try clear hM43);replace p43:=eq_true p43;replace q43:=eq_true q43;have HX64:=Aside0.mk (show Kd.R k51 51 w61 w.heap.size (fun k_ => k_ ≠ gb148) (.slice (some ⟨go43,0,none⟩) x126001_1.length co47) x126001_1 from (by exact HO_126001.out));obtain ⟨ce64,hcl64,hM64,hcc64,hfr64⟩ := Kd.R_elem HX64.out z51 (t144 : Int) (of_decide_eq_true (by (with_reducible assumption))) (by have h_ : (t144 : Int) < ((x126001_1.length : Int) : Int):=of_decide_eq_true (by (with_reducible assumption));exact h_);obtain rfl:=k51_openM hM64;have HP64:=Kd.R_seg HX64.out (t144 : Int) (of_decide_eq_true (by (with_reducible assumption))) (by have h_ : (t144 : Int) < ((x126001_1.length : Int) : Int):=of_decide_eq_true (by (with_reducible assumption));exact h_) (seg := [.int .i64 ((rd_T51 x126001_1 t144).f0), .int .i64 ((rd_T51 x126001_1 t144).f1)]) (j:=0) hcl64 hcc64 (show 2 ≤ 2 from by decide) (x':=(⟨(rd_T51 x126001_1 t144).f0,(rd_T51 x126001_1 t144).f1⟩ : S51)) (k51_mkM _ _ _ (⟨(rd_T51 x126001_1 t144).f0,(rd_T51 x126001_1 t144).f1⟩ : S51) ) (fun _ hk => hk);have hx64_0:=hcc64 0 _ rfl;(try simp only [show (k51).sz = 2 from rfl,Nat.mul_one,Nat.add_zero] at hx64_0);have hf64_0:=hfr64 0;(try simp only [show (k51).sz = 2 from rfl,Nat.mul_one,Nat.add_zero] at hf64_0);have hx64_1:=hcc64 1 _ rfl;(try simp only [show (k51).sz = 2 from rfl,Nat.mul_one,Nat.add_zero] at hx64_1);have hf64_1:=hfr64 1;(try simp only [show (k51).sz = 2 from rfl,Nat.mul_one,Nat.add_zero] at hf64_1);clear hcl64 hcc64 hfr64;(try clear hM64)) | ((with_reducible refine gate_store (t:=51) (p:=88) rfl ?_);refine store_event (t:=51) (p:=88) (v:=?vo_w65) (w1:=((w61.setCell ⟨go43,(t144 : Int).toNat * 2,none⟩ (.int .i64 ((rd_T51 x126001_1 t144).f0))).setCell ⟨go43,(t144 : Int).toNat * 2 + 1,none⟩ (.int .i64 ((rd_T51 x126001_1 t144).f1)))) ?hg ?ho ?hn ?hr ?_;(case ho => rfl);(case hg => rfl);(case hn => rfl);(case hr => (go_simp;done));intro w65 hw;have hg : w61.grownBy w65 (some go43):=(by rw [hw];exact HP64.2);have hp_ : Kd.R k51 51 w65 w.heap.size (fun k_ => k_ ≠ gb148) (.slice (some ⟨go43,0,none⟩) x126001_1.length co47) y158:=(by rw [hw,Ny158.out];exact HP64.1);clear HP64;have n0_:=Aside0.mk (hp_);have n1_:=Aside0.mk (blk_grown (g:=gb112) (o := .cells #[.int .i64 0, .slice none 0 0, .int .i64 0] 38 (0,0)) (by exact BK112.out) hg (Kd.R_ne HO_126001.out BK112.out (by decide)));have n2_:=Aside0.mk (blk_grown (g:=gb125) (o := .cells #[.int .i64 t155, .slice (some ⟨go43,0,none⟩) x126001_1.length co47, .int .i64 t122] 38 (0,0)) (by exact BK125.out) hg (Kd.R_ne HO_126001.out BK125.out (by decide)));have n3_:=Aside0.mk (IsS58.grown (by exact HI0.out) hg (IsS58.own_ne HI0.out HO_126001.out (by decide)));have n4_:=Aside0.mk (blk_grown (g:=gb148) (o := .cells #[.int .i64 ((rd_T51 x126001_1 t144).f0), .int .i64 ((rd_T51 x126001_1 t144).f1)] 51 (0,0)) (by exact BK148.out) hg (Kd.R_away HO_126001.out (fun _ hk => hk)));have n5_:=Aside0.mk (Kd.R_over' (v:=(.slice (some ⟨go43,0,none⟩) x126001_1.length co47)) (by exact HO154.out) (Kd.R_typed HO_126001.out) (by decide) hg);have n6_:=Aside0.mk ((by rw [hw];exact below_set (below_set (HB.out) (Nat.le_trans HL.out GB43.out)) (Nat.le_trans HL.out GB43.out) : Below w0.heap.size w0 w65));have n7_:=Aside0.mk (KeepBut.trans (by exact HK.out) (KeepBut.of_grown hg g) (Kd.R_base2 HO_126001.out));clear HO_126001;clear BK112;clear BK125;clear HI0;clear BK148;clear HO154;clear HB;clear HK;have HO_126001:=n0_;have BK112:=n1_;have BK125:=n2_;have HI0:=n3_;have BK148:=n4_;have HO154:=n5_;have HB:=n6_;have HK:=n7_;clear n0_ n1_ n2_ n3_ n4_ n5_ n6_ n7_;clear hg hw hp_;have hcz66_0 : w65.cell? ⟨gb125,0,none⟩ = some (.int .i64 t155):=(blk_cell BK125.out 0).trans rfl;have hcz66_1 : w65.cell? ⟨gb125,1,none⟩ = some (.slice (some ⟨go43,0,none⟩) x126001_1.length co47):=(blk_cell BK125.out 1).trans rfl;have hcz66_2 : w65.cell? ⟨gb125,2,none⟩ = some (.int .i64 t122):=(blk_cell BK125.out 2).trans rfl;have hfz66_0:=blk_frozen BK125.out 0;have hfz66_1:=blk_frozen BK125.out 1;have hfz66_2:=blk_frozen BK125.out 2;have hnb67:=NB112_0.out;have hnc67:=NB0_112.out;have hcz68_0 : w65.cell? ⟨gb112,0,none⟩ = some (.int .i64 0):=(blk_cell BK112.out 0).trans rfl;have hcz68_1 : w65.cell? ⟨gb112,1,none⟩ = some (.slice none 0 0):=(blk_cell BK112.out 1).trans rfl;have hcz68_2 : w65.cell? ⟨gb112,2,none⟩ = some (.int .i64 0):=(blk_cell BK112.out 2).trans rfl;have hfz68_0:=blk_frozen BK112.out 0;have hfz68_1:=blk_frozen BK112.out 1;have hfz68_2:=blk_frozen BK112.out 2))
       refine bodyPost_ret (results_cell_row rfl _ _ gb112 38 #[.int .i64 t155, .slice (some ⟨go43,0,none⟩) x126001_1.length co47, .int .i64 t122] (0,0) _ rfl (by refine blk_put (cs:=#[.int .i64 t155, .slice (some ⟨go43,0,none⟩) x126001_1.length co47, .int .i64 0]) ?_ 2 _ rfl;refine blk_put (cs:=#[.int .i64 t155, .slice none 0 0, .int .i64 0]) ?_ 1 _ rfl;refine blk_put (cs:=#[.int .i64 0, .slice none 0 0, .int .i64 0]) ?_ 0 _ rfl;exact BK112.out) Try.underlying38 rfl (by kernel_rfl)) rfl ?_
       exact ⟨_,by rfl,by exact Kd.R_mono (Kd.R_far (p:=⟨gb112,2,none⟩) (Kd.R_far (p:=⟨gb112,1,none⟩) (Kd.R_far (p:=⟨gb112,0,none⟩) (Kd.R_types HO_126001.out BK112.out (by decide)) (fun _ hk => hk.2) (.int .i64 t155)) (fun _ hk => hk.2) (.slice (some ⟨go43,0,none⟩) x126001_1.length co47)) (fun _ hk => hk.2) (.int .i64 t122)) (fun _ hk => trivial),by repeat ((with_reducible first | exact HI0.out | refine IsS58.far ?_ NB0_112.out _)),by repeat ((with_reducible first | exact HB.out | refine below_set ?_ GE112.out)),by repeat ((with_reducible first | exact HK.out | refine keep_far ?_ GW112.out _))⟩
      ·rw [if_neg c41] at H
       have c41b0 : (t149 == 0) = false:=beq_eq_false_iff_ne.mpr c41
       have c41b1 : (t149 != 0) = true:=bne_iff_ne.mpr c41
       by_cases c69 : t149 = 1
       ·rw [if_pos c69] at H
        have c69b0 : (t149 == 1) = true:=beq_iff_eq.mpr c69
        have c69b1 : (t149 != 1) = false:=bne_eq_false_iff_eq.mpr c69
        clear c69
        obtain ⟨y159,hy159⟩ : ∃ y_ : List Int,y_ = (([99,301] : List Int)):=⟨_,rfl⟩
        replace H : ((spec_l1Cur_among.f s0_0 t150 t151 y159).bind fun bt162 => (some (t116,(x126001_1.set (t144 : Int).toNat (⟨(rd_T51 x126001_1 t144).f0,(rd_T51 x126001_1 t144).f1⟩ : S51)),bt162.1,bt162.2.1,bt162.2.2))) = some (r1,r2,r3,r4,r5):=by (rw [hy159];with_reducible exact H)
        have Ny159:=Aside0.mk hy159
        clear hy159
        replace H:=Option.bind_eq_some_iff.mp H
        obtain ⟨⟨t162,t163,t164⟩,A700,H⟩ := H
        replace H : (some (t116,(x126001_1.set (t144 : Int).toNat (⟨(rd_T51 x126001_1 t144).f0,(rd_T51 x126001_1 t144).f1⟩ : S51)),t162,t163,t164)) = some (r1,r2,r3,r4,r5):=H
        have A70:=Aside0.mk A700
        clear A700
        obtain ⟨y165,hy165⟩ : ∃ y_ : List (S51),y_ = (x126001_1.set (t144 : Int).toNat (⟨(rd_T51 x126001_1 t144).f0,(rd_T51 x126001_1 t144).f1⟩ : S51)):=⟨_,rfl⟩
        replace H : (some (t116,y165,t162,t163,t164)) = some (r1,r2,r3,r4,r5):=by (rw [hy165];with_reducible exact H)
        have Ny165:=Aside0.mk hy165
        clear hy165
        simp only [Option.some.injEq,Prod.mk.injEq] at H
        obtain ⟨rfl,rfl,rfl,rfl,rfl⟩ := H
        have hnb72:=NB125_112.out
        have hnc72:=NB112_125.out
        have hnb73:=NB125_0.out
        have hnc73:=NB0_125.out
        have hcz74_0 : wr.cell? ⟨gb125,0,none⟩ = some (.int .i64 t116):=(blk_cell BK125.out 0).trans rfl
        have hcz74_1 : wr.cell? ⟨gb125,1,none⟩ = some (u126001):=(blk_cell BK125.out 1).trans rfl
        have hcz74_2 : wr.cell? ⟨gb125,2,none⟩ = some (.int .i64 t122):=(blk_cell BK125.out 2).trans rfl
        have hfz74_0:=blk_frozen BK125.out 0
        have hfz74_1:=blk_frozen BK125.out 1
        have hfz74_2:=blk_frozen BK125.out 2
        obtain ⟨Ao75,co75,eo75⟩ := Kd.R_slice HO_126001.out
        subst eo75
        go_wp2_with (first | ((with_reducible refine gate_callee (f:=33) rfl ?_);refine goesL_ (some 37) rfl rfl Try.func33 (by kernel_rfl) rfl #[.pointer (some ⟨g,0,none⟩), .int .i64 (x126001_1.length : Int)] rfl (by (try simp only [List.map_toArray,List.map_cons,List.map_nil]);rfl) ?_;(with_reducible refine (spec_l1Cur_pick.calls g s0_0 x1001_1 x1002_1 (x126001_1.length : Int) t144 t145 t146 w0 _ ?side1 ?side2 A37.out).mono ?_);(case side1 => exact HI0.out);(case side2 => exact HB.out);rintro e w76 ⟨rfl,hi,hb,hk⟩;refine ⟨_,rfl, ?_⟩;have n0_:=Aside0.mk (Kd.R_mono (Kd.R_keep (IsS58.apart (show IsS58 w0 _ g s0_0 x1001_1 x1002_1 from by exact HI0.out) (by exact HO_126001.out) (by decide)) hk (fun _ h => h.2)) (fun _ h => h.1));have n1_:=Aside0.mk (KeepBut.blk hk (g':=gb112) (o := .cells #[.int .i64 0, .slice none 0 0, .int .i64 0] 38 (0,0)) (by exact BK112.out) NB112_0.out (by simp));have n2_:=Aside0.mk (KeepBut.blk hk (g':=gb125) (o := .cells #[.int .i64 t116, .slice Ao75 x126001_1.length co75, .int .i64 t122] 38 (0,0)) (by exact BK125.out) NB125_0.out (by simp));have n3_:=Aside0.mk (KeepBut.trans (by exact HK.out) hk (.inl rfl));have n4_:=Aside0.mk (hb);have n5_:=Aside0.mk (hi);clear HO_126001;clear BK112;clear BK125;clear HK;clear HB;clear HI0;have HO_126001:=n0_;have BK112:=n1_;have BK125:=n2_;have HK:=n3_;have HB:=n4_;have HI0:=n5_;clear n0_ n1_ n2_ n3_ n4_ n5_;(try clear hb);(try clear hk);(try clear hi);have hcz77_0 : w76.cell? ⟨gb125,0,none⟩ = some (.int .i64 t116):=(blk_cell BK125.out 0).trans rfl;have hcz77_1 : w76.cell? ⟨gb125,1,none⟩ = some (.slice Ao75 x126001_1.length co75):=(blk_cell BK125.out 1).trans rfl;have hcz77_2 : w76.cell? ⟨gb125,2,none⟩ = some (.int .i64 t122):=(blk_cell BK125.out 2).trans rfl;have hfz77_0:=blk_frozen BK125.out 0;have hfz77_1:=blk_frozen BK125.out 1;have hfz77_2:=blk_frozen BK125.out 2;have p147 : 0 ≤ (t144 : Int):=of_decide_eq_true (by (with_reducible assumption));have q147 : t144 < (x126001_1.length : Int):=of_decide_eq_true (by (with_reducible assumption));obtain ⟨ad147,e147,hx147_0,hx147_1⟩ := at_T51 (Kd.R_reads' HO_126001.out).2.2 t144 p147 q147;cases e147;replace p147:=eq_true p147;replace q147:=eq_true q147) | ((with_reducible refine gate_dst (N:=6) rfl ?_);refine box_event ?hg (N:=6) ?hd (cs:=#[.int .i64 0, .int .i64 0]) (t:=51) ?hr ?_;(case hd => rfl);(case hg => rfl);(case hr => (go_simp;done));intro gb148 hg w78 hbox hb;have n0_:=Aside0.mk (Kd.R_below (Kd.R_elderB (by exact HO_126001.out) gb148 (Nat.le_of_eq hg.symm)) hb);have n1_:=Aside0.mk (blk_below (g:=gb112) (o := .cells #[.int .i64 0, .slice none 0 0, .int .i64 0] 38 (0,0)) (by exact BK112.out) hb);have n2_:=Aside0.mk (blk_below (g:=gb125) (o := .cells #[.int .i64 t116, .slice (some ad147) x126001_1.length co75, .int .i64 t122] 38 (0,0)) (by exact BK125.out) hb);have n3_:=Aside0.mk (IsS58.below (by exact HI0.out) hb);have n4_:=Aside0.mk (KeepBut.trans (by exact HK.out) (KeepBut.of_below hb g none) (.inl rfl));have n5_:=Aside0.mk (below_step (by exact HB.out) hb);have n6_:=Aside0.mk (hbox);have n7_:=Aside0.mk ((by rw [hg];exact (keep_size (w:=w) (g:=g) (row:=none) (by exact HK.out)) : w.heap.size ≤ gb148));have n8_:=Aside0.mk ((Nat.le_trans HW0.out (by rw [hg];exact (keep_size (w:=w) (g:=g) (row:=none) (by exact HK.out)) : w.heap.size ≤ gb148) : w0.heap.size ≤ gb148));have n9_:=Aside0.mk ((by rw [hg];exact Nat.ne_of_lt (blk_lt (g:=gb112) (o := .cells #[.int .i64 0, .slice none 0 0, .int .i64 0] 38 (0,0)) (by exact BK112.out)) : gb112 ≠ gb148));have n10_:=Aside0.mk ((by rw [hg];exact Nat.ne_of_gt (blk_lt (g:=gb112) (o := .cells #[.int .i64 0, .slice none 0 0, .int .i64 0] 38 (0,0)) (by exact BK112.out)) : gb148 ≠ gb112));have n11_:=Aside0.mk ((by rw [hg];exact Nat.ne_of_lt (blk_lt (g:=gb125) (o := .cells #[.int .i64 t116, .slice (some ad147) x126001_1.length co75, .int .i64 t122] 38 (0,0)) (by exact BK125.out)) : gb125 ≠ gb148));have n12_:=Aside0.mk ((by rw [hg];exact Nat.ne_of_gt (blk_lt (g:=gb125) (o := .cells #[.int .i64 t116, .slice (some ad147) x126001_1.length co75, .int .i64 t122] 38 (0,0)) (by exact BK125.out)) : gb148 ≠ gb125));have n13_:=Aside0.mk ((by rw [hg];exact Nat.ne_of_lt (IsS58.lt (show IsS58 w0 _ g s0_0 t145 t146 from by exact HI0.out)) : g ≠ gb148));have n14_:=Aside0.mk ((by rw [hg];exact Nat.ne_of_gt (IsS58.lt (show IsS58 w0 _ g s0_0 t145 t146 from by exact HI0.out)) : gb148 ≠ g));clear HO_126001;clear BK112;clear BK125;clear HI0;clear HK;clear HB;have HO_126001:=n0_;have BK112:=n1_;have BK125:=n2_;have HI0:=n3_;have HK:=n4_;have HB:=n5_;have BK148:=n6_;have GW148:=n7_;have GE148:=n8_;have NB112_148:=n9_;have NB148_112:=n10_;have NB125_148:=n11_;have NB148_125:=n12_;have NB0_148:=n13_;have NB148_0:=n14_;clear n0_ n1_ n2_ n3_ n4_ n5_ n6_ n7_ n8_ n9_ n10_ n11_ n12_ n13_ n14_;clear hb hbox hg;have hnb79:=NB148_112.out;have hnc79:=NB112_148.out;have hnb80:=NB148_125.out;have hnc80:=NB125_148.out;have hnb81:=NB148_0.out;have hnc81:=NB0_148.out;have hcz82_0 : w78.cell? ⟨gb148,0,none⟩ = some (.int .i64 0):=(blk_cell BK148.out 0).trans rfl;have hcz82_1 : w78.cell? ⟨gb148,1,none⟩ = some (.int .i64 0):=(blk_cell BK148.out 1).trans rfl;have hfz82_0:=blk_frozen BK148.out 0;have hfz82_1:=blk_frozen BK148.out 1) | ((with_reducible refine gate_callee (f:=33) rfl ?_);refine goesL_ (some 44) rfl rfl Try.func33 (by kernel_rfl) rfl #[.pointer (some ⟨g,0,none⟩), .int .i64 40] rfl (by (try simp only [List.map_toArray,List.map_cons,List.map_nil]);rfl) ?_;(with_reducible refine (spec_l1Cur_pick.calls g s0_0 t145 t146 40 t149 t150 t151 w0 _ ?side1 ?side2 A40.out).mono ?_);(case side1 => repeat ((with_reducible first | exact HI0.out | refine IsS58.far ?_ NB0_148.out _)));(case side2 => repeat ((with_reducible first | exact HB.out | refine below_set ?_ GE148.out)));rintro e w83 ⟨rfl,hi,hb,hk⟩;refine ⟨_,rfl, ?_⟩;have n0_:=Aside0.mk (Kd.R_mono (Kd.R_keep (IsS58.apart (show IsS58 w0 _ g s0_0 t145 t146 from by repeat ((with_reducible first | exact HI0.out | refine IsS58.far ?_ NB0_148.out _))) (by exact (Kd.R_mono (Kd.R_far (p:=⟨gb148,1,none⟩) (Kd.R_far (p:=⟨gb148,0,none⟩) (Kd.R_mono HO_126001.out (fun k_ hk => (⟨hk,hk.2⟩ : _ ∧ k_ ≠ gb148))) (fun _ hk => hk.2) (.int .i64 ((rd_T51 x126001_1 t144).f0))) (fun _ hk => hk.2) (.int .i64 ((rd_T51 x126001_1 t144).f1))) (fun _ h_ => h_.1))) (by decide)) hk (fun _ h => h.2)) (fun _ h => h.1));have n1_:=Aside0.mk (KeepBut.blk hk (g':=gb112) (o := .cells #[.int .i64 0, .slice none 0 0, .int .i64 0] 38 (0,0)) (by refine blk_far ?_ NB112_148.out _;refine blk_far ?_ NB112_148.out _;exact BK112.out) NB112_0.out (by simp));have n2_:=Aside0.mk (KeepBut.blk hk (g':=gb125) (o := .cells #[.int .i64 t116, .slice (some ad147) x126001_1.length co75, .int .i64 t122] 38 (0,0)) (by refine blk_far ?_ NB125_148.out _;refine blk_far ?_ NB125_148.out _;exact BK125.out) NB125_0.out (by simp));have n3_:=Aside0.mk (KeepBut.blk hk (g':=gb148) (o := .cells #[.int .i64 ((rd_T51 x126001_1 t144).f0), .int .i64 ((rd_T51 x126001_1 t144).f1)] 51 (0,0)) (by refine blk_put (cs:=#[.int .i64 ((rd_T51 x126001_1 t144).f0), .int .i64 0]) ?_ 1 _ rfl;refine blk_put (cs:=#[.int .i64 0, .int .i64 0]) ?_ 0 _ rfl;exact BK148.out) NB148_0.out (by simp));have n4_:=Aside0.mk (KeepBut.trans (by repeat ((with_reducible first | exact HK.out | refine keep_far ?_ GW148.out _))) hk (.inl rfl));have n5_:=Aside0.mk (hb);have n6_:=Aside0.mk (hi);clear HO_126001;clear BK112;clear BK125;clear BK148;clear HK;clear HB;clear HI0;have HO_126001:=n0_;have BK112:=n1_;have BK125:=n2_;have BK148:=n3_;have HK:=n4_;have HB:=n5_;have HI0:=n6_;clear n0_ n1_ n2_ n3_ n4_ n5_ n6_;(try clear hb);(try clear hk);(try clear hi)) | ((with_reducible refine gate_dst (N:=54) rfl ?_);refine Kd.R_lit (Kd.int .i64) _ 3 ?hg (N:=54) ?hd (xs:=([99,301] : List Int)) (inner := [.int .i64 99, .int .i64 301]) (ok:=fun _ => True) (okp:=fun _ => True) ?hr ?hp (fun _ hk => hk) trivial (Below.refl _ _) (Nat.le_refl _) (by simp) ?_;(case hd => rfl);(case hg => rfl);(case hr => (go_simp;done));(case hp => exact (Reps.one (show Kd.M (Kd.int .i64) _ _ _ 99 [.int .i64 99] from rfl) (Reps.one (show Kd.M (Kd.int .i64) _ _ _ 301 [.int .i64 301] from rfl) (Reps.none _ _))));intro v160 w84 ho85 hb hg_ hnew_;clear hg_ hnew_;(rw [← Ny159.out] at ho85);have n0_:=Aside0.mk (Kd.R_below (by exact HO_126001.out) hb);have n1_:=Aside0.mk (Kd.R_lower ho85 (keep_size (w:=w) (g:=g) (row:=none) (by exact HK.out)));have n2_:=Aside0.mk (blk_below (g:=gb112) (o := .cells #[.int .i64 0, .slice none 0 0, .int .i64 0] 38 (0,0)) (by exact BK112.out) hb);have n3_:=Aside0.mk (blk_below (g:=gb125) (o := .cells #[.int .i64 t116, .slice (some ad147) x126001_1.length co75, .int .i64 t122] 38 (0,0)) (by exact BK125.out) hb);have n4_:=Aside0.mk (IsS58.below (by exact HI0.out) hb);have n5_:=Aside0.mk (blk_below (g:=gb148) (o := .cells #[.int .i64 ((rd_T51 x126001_1 t144).f0), .int .i64 ((rd_T51 x126001_1 t144).f1)] 51 (0,0)) (by exact BK148.out) hb);have n6_:=Aside0.mk (KeepBut.trans (by exact HK.out) (KeepBut.of_below hb g none) (.inl rfl));have n7_:=Aside0.mk (below_step (by exact HB.out) hb);clear HO_126001;clear BK112;clear BK125;clear HI0;clear BK148;clear HK;clear HB;have HO_126001:=n0_;have HO161:=n1_;have BK112:=n2_;have BK125:=n3_;have HI0:=n4_;have BK148:=n5_;have HK:=n6_;have HB:=n7_;clear n0_ n1_ n2_ n3_ n4_ n5_ n6_ n7_;clear hb ho85;obtain ⟨Ao86,co86,eo86⟩ := Kd.R_slice HO161.out;subst eo86) | ((with_reducible refine gate_callee (f:=36) rfl ?_);refine goesL_ (some 55) rfl rfl Try.func36 (by kernel_rfl) rfl #[.pointer (some ⟨g,0,none⟩), .slice Ao86 y159.length co86] rfl (by (try simp only [List.map_toArray,List.map_cons,List.map_nil]);rfl) ?_;(with_reducible refine (spec_l1Cur_among.calls g s0_0 t150 t151 _ _ y159 t162 t163 t164 w0 _ ?side1 ?side2 ?side3 ?side4 ?side5 A70.out).mono ?_);(case side1 => exact HI0.out);(case side2 => exact HB.out);(case side3 => repeat (exact (Kd.R_reads' HO161.out).2.2));(case side4 => exact (Kd.R_reads' HO161.out).2.1);(case side5 => exact far_slice (IsS58.own_ne HI0.out HO161.out (by decide)));rintro e w87 ⟨rfl,hi,hb,hk⟩;refine ⟨_,rfl, ?_⟩;have n0_:=Aside0.mk (Kd.R_mono (Kd.R_keep (IsS58.apart (show IsS58 w0 _ g s0_0 t150 t151 from by exact HI0.out) (by exact HO_126001.out) (by decide)) hk (fun _ h => h.2)) (fun _ h => h.1));have n1_:=Aside0.mk (KeepBut.blk hk (g':=gb112) (o := .cells #[.int .i64 0, .slice none 0 0, .int .i64 0] 38 (0,0)) (by exact BK112.out) NB112_0.out (by simp));have n2_:=Aside0.mk (KeepBut.blk hk (g':=gb125) (o := .cells #[.int .i64 t116, .slice (some ad147) x126001_1.length co75, .int .i64 t122] 38 (0,0)) (by exact BK125.out) NB125_0.out (by simp));have n3_:=Aside0.mk (KeepBut.blk hk (g':=gb148) (o := .cells #[.int .i64 ((rd_T51 x126001_1 t144).f0), .int .i64 ((rd_T51 x126001_1 t144).f1)] 51 (0,0)) (by exact BK148.out) NB148_0.out (by simp));have n4_:=Aside0.mk (Kd.R_mono (Kd.R_keep (IsS58.apart (show IsS58 w0 _ g s0_0 t150 t151 from by exact HI0.out) (by exact HO161.out) (by decide)) hk (fun _ h => h.2)) (fun _ h => h.1));have n5_:=Aside0.mk (KeepBut.trans (by exact HK.out) hk (.inl rfl));have n6_:=Aside0.mk (hb);have n7_:=Aside0.mk (hi);clear HO_126001;clear BK112;clear BK125;clear BK148;clear HO161;clear HK;clear HB;clear HI0;have HO_126001:=n0_;have BK112:=n1_;have BK125:=n2_;have BK148:=n3_;have HO161:=n4_;have HK:=n5_;have HB:=n6_;have HI0:=n7_;clear n0_ n1_ n2_ n3_ n4_ n5_ n6_ n7_;(try clear hb);(try clear hk);(try clear hi);have hcz88_0 : w87.cell? ⟨gb125,0,none⟩ = some (.int .i64 t116):=(blk_cell BK125.out 0).trans rfl;have hcz88_1 : w87.cell? ⟨gb125,1,none⟩ = some (.slice (some ad147) x126001_1.length co75):=(blk_cell BK125.out 1).trans rfl;have hcz88_2 : w87.cell? ⟨gb125,2,none⟩ = some (.int .i64 t122):=(blk_cell BK125.out 2).trans rfl;have hfz88_0:=blk_frozen BK125.out 0;have hfz88_1:=blk_frozen BK125.out 1;have hfz88_2:=blk_frozen BK125.out 2) | ((with_reducible refine gate_store (t:=3) (p:=56) rfl ?_);refine store_event (t:=3) (p:=56) (v:=?vo_w89) (w1:=(w87.setCell ⟨gb125,2,none⟩ (.int .i64 t162))) ?hg ?ho ?hn ?hr ?_;(case ho => rfl);(case hg => rfl);(case hn => rfl);(case hr => (go_simp;done));intro w89 hw;have n0_ : Aside0 (Kd.R k51 51 w89 w.heap.size (fun k_ => k_ ≠ gb148) (.slice (some ad147) x126001_1.length co75) x126001_1):=⟨(by rw [hw];exact (by exact Kd.R_mono (Kd.R_far (p:=⟨gb125,2,none⟩) (Kd.R_types HO_126001.out BK125.out (by decide)) (fun _ hk => hk.2) (.int .i64 t162)) (fun _ hk => hk.1.2)))⟩;have n1_ : Aside0 (Kd.R (Kd.int .i64) 3 w89 w.heap.size (fun _ => True) (.slice Ao86 y159.length co86) y159):=⟨(by rw [hw];exact (by exact Kd.R_mono (Kd.R_far (p:=⟨gb125,2,none⟩) (Kd.R_types HO161.out BK125.out (by decide)) (fun _ hk => hk.2) (.int .i64 t162)) (fun _ hk => trivial)))⟩;have n2_ : Aside0 (w89.heap[gb112]? = some (.cells #[.int .i64 0, .slice none 0 0, .int .i64 0] 38 (0,0))):=⟨(by rw [hw];exact (by refine blk_far ?_ NB112_125.out _;exact BK112.out))⟩;have n3_ : Aside0 (w89.heap[gb125]? = some (.cells #[.int .i64 t116, .slice (some ad147) x126001_1.length co75, .int .i64 t162] 38 (0,0))):=⟨(by rw [hw];exact (by refine blk_put (cs:=#[.int .i64 t116, .slice (some ad147) x126001_1.length co75, .int .i64 t122]) ?_ 2 _ rfl;exact BK125.out))⟩;have n4_ : Aside0 (w89.heap[gb148]? = some (.cells #[.int .i64 ((rd_T51 x126001_1 t144).f0), .int .i64 ((rd_T51 x126001_1 t144).f1)] 51 (0,0))):=⟨(by rw [hw];exact (by refine blk_far ?_ NB148_125.out _;exact BK148.out))⟩;have n5_ : Aside0 (IsS58 w0 w89 g s0_0 t163 t164):=⟨(by rw [hw];exact (by repeat ((with_reducible first | exact HI0.out | refine IsS58.far ?_ NB0_125.out _))))⟩;have n6_ : Aside0 (KeepBut w w89 g none):=⟨(by rw [hw];exact (by repeat ((with_reducible first | exact HK.out | refine keep_far ?_ GW125.out _))))⟩;have n7_ : Aside0 (Below w0.heap.size w0 w89):=⟨(by rw [hw];exact (by repeat ((with_reducible first | exact HB.out | refine below_set ?_ GE125.out))))⟩;clear hw;clear HO_126001;clear HO161;clear BK112;clear BK125;clear BK148;clear HI0;clear HK;clear HB;have HO_126001:=n0_;have HO161:=n1_;have BK112:=n2_;have BK125:=n3_;have BK148:=n4_;have HI0:=n5_;have HK:=n6_;have HB:=n7_;clear n0_ n1_ n2_ n3_ n4_ n5_ n6_ n7_;have hcz90_0 : w89.cell? ⟨gb125,0,none⟩ = some (.int .i64 t116):=(blk_cell BK125.out 0).trans rfl;have hcz90_1 : w89.cell? ⟨gb125,1,none⟩ = some (.slice (some ad147) x126001_1.length co75):=(blk_cell BK125.out 1).trans rfl;have hcz90_2 : w89.cell? ⟨gb125,2,none⟩ = some (.int .i64 t162):=(blk_cell BK125.out 2).trans rfl;have hfz90_0:=blk_frozen BK125.out 0;have hfz90_1:=blk_frozen BK125.out 1;have hfz90_2:=blk_frozen BK125.out 2;have hcz91_0 : w89.cell? ⟨gb148,0,none⟩ = some (.int .i64 ((rd_T51 x126001_1 t144).f0)):=(blk_cell BK148.out 0).trans rfl;have hcz91_1 : w89.cell? ⟨gb148,1,none⟩ = some (.int .i64 ((rd_T51 x126001_1 t144).f1)):=(blk_cell BK148.out 1).trans rfl;have hfz91_0:=blk_frozen BK148.out 0;have hfz91_1:=blk_frozen BK148.out 1;have p71 : 0 ≤ (t144 : Int):=of_decide_eq_true (by (with_reducible assumption));have q71 : (t144 : Int) < ((x126001_1.length : Int) : Int):=of_decide_eq_true (by (with_reducible assumption));obtain ⟨go71,co71,eo71,gb71,gl71,cl71,HG71⟩ := Kd.R_form HO_126001.out (by omega);(cases eo71);have GB71:=Aside0.mk gb71;have GG71:=Aside0.mk HG71;clear gb71 gl71 HG71;(simp only [add_plain] at hx147_0);(simp only [add_plain] at hx147_1);obtain ⟨ce71,hcl71,hM71,hcc71,hfr71⟩ := Kd.R_elem HO_126001.out z51 (t144 : Int) p71 q71;obtain rfl:=k51_openM hM71;have hx71_0 : w89.cell? ⟨go71,(t144 : Int).toNat * 2,none⟩ = some (.int .i64 ((rd_T51 x126001_1 t144).f0)):=hcc71 0 _ rfl;have hx71_1 : w89.cell? ⟨go71,(t144 : Int).toNat * 2 + 1,none⟩ = some (.int .i64 ((rd_T51 x126001_1 t144).f1)):=hcc71 1 _ rfl;have hf71_0 : w89.frozen? ⟨go71,(t144 : Int).toNat * 2,none⟩ = false:=hfr71 0;have hf71_1 : w89.frozen? ⟨go71,(t144 : Int).toNat * 2 + 1,none⟩ = false:=hfr71 1;clear hcl71 hcc71 hfr71;(try clear hM71);replace p71:=eq_true p71;replace q71:=eq_true q71;have HX92:=Aside0.mk (show Kd.R k51 51 w89 w.heap.size (fun k_ => k_ ≠ gb148) (.slice (some ⟨go71,0,none⟩) x126001_1.length co75) x126001_1 from (by exact HO_126001.out));obtain ⟨ce92,hcl92,hM92,hcc92,hfr92⟩ := Kd.R_elem HX92.out z51 (t144 : Int) (of_decide_eq_true (by (with_reducible assumption))) (by have h_ : (t144 : Int) < ((x126001_1.length : Int) : Int):=of_decide_eq_true (by (with_reducible assumption));exact h_);obtain rfl:=k51_openM hM92;have HP92:=Kd.R_seg HX92.out (t144 : Int) (of_decide_eq_true (by (with_reducible assumption))) (by have h_ : (t144 : Int) < ((x126001_1.length : Int) : Int):=of_decide_eq_true (by (with_reducible assumption));exact h_) (seg := [.int .i64 ((rd_T51 x126001_1 t144).f0), .int .i64 ((rd_T51 x126001_1 t144).f1)]) (j:=0) hcl92 hcc92 (show 2 ≤ 2 from by decide) (x':=(⟨(rd_T51 x126001_1 t144).f0,(rd_T51 x126001_1 t144).f1⟩ : S51)) (k51_mkM _ _ _ (⟨(rd_T51 x126001_1 t144).f0,(rd_T51 x126001_1 t144).f1⟩ : S51) ) (fun _ hk => hk);have hx92_0:=hcc92 0 _ rfl;(try simp only [show (k51).sz = 2 from rfl,Nat.mul_one,Nat.add_zero] at hx92_0);have hf92_0:=hfr92 0;(try simp only [show (k51).sz = 2 from rfl,Nat.mul_one,Nat.add_zero] at hf92_0);have hx92_1:=hcc92 1 _ rfl;(try simp only [show (k51).sz = 2 from rfl,Nat.mul_one,Nat.add_zero] at hx92_1);have hf92_1:=hfr92 1;(try simp only [show (k51).sz = 2 from rfl,Nat.mul_one,Nat.add_zero] at hf92_1);clear hcl92 hcc92 hfr92;(try clear hM92)) | ((with_reducible refine gate_store (t:=51) (p:=88) rfl ?_);refine store_event (t:=51) (p:=88) (v:=?vo_w93) (w1:=((w89.setCell ⟨go71,(t144 : Int).toNat * 2,none⟩ (.int .i64 ((rd_T51 x126001_1 t144).f0))).setCell ⟨go71,(t144 : Int).toNat * 2 + 1,none⟩ (.int .i64 ((rd_T51 x126001_1 t144).f1)))) ?hg ?ho ?hn ?hr ?_;(case ho => rfl);(case hg => rfl);(case hn => rfl);(case hr => (go_simp;done));intro w93 hw;have hg : w89.grownBy w93 (some go71):=(by rw [hw];exact HP92.2);have hp_ : Kd.R k51 51 w93 w.heap.size (fun k_ => k_ ≠ gb148) (.slice (some ⟨go71,0,none⟩) x126001_1.length co75) y165:=(by rw [hw,Ny165.out];exact HP92.1);clear HP92;have n0_:=Aside0.mk (hp_);have n1_:=Aside0.mk (blk_grown (g:=gb112) (o := .cells #[.int .i64 0, .slice none 0 0, .int .i64 0] 38 (0,0)) (by exact BK112.out) hg (Kd.R_ne HO_126001.out BK112.out (by decide)));have n2_:=Aside0.mk (blk_grown (g:=gb125) (o := .cells #[.int .i64 t116, .slice (some ⟨go71,0,none⟩) x126001_1.length co75, .int .i64 t162] 38 (0,0)) (by exact BK125.out) hg (Kd.R_ne HO_126001.out BK125.out (by decide)));have n3_:=Aside0.mk (IsS58.grown (by exact HI0.out) hg (IsS58.own_ne HI0.out HO_126001.out (by decide)));have n4_:=Aside0.mk (blk_grown (g:=gb148) (o := .cells #[.int .i64 ((rd_T51 x126001_1 t144).f0), .int .i64 ((rd_T51 x126001_1 t144).f1)] 51 (0,0)) (by exact BK148.out) hg (Kd.R_away HO_126001.out (fun _ hk => hk)));have n5_:=Aside0.mk (Kd.R_over' (v:=(.slice (some ⟨go71,0,none⟩) x126001_1.length co75)) (by exact HO161.out) (Kd.R_typed HO_126001.out) (by decide) hg);have n6_:=Aside0.mk ((by rw [hw];exact below_set (below_set (HB.out) (Nat.le_trans HL.out GB71.out)) (Nat.le_trans HL.out GB71.out) : Below w0.heap.size w0 w93));have n7_:=Aside0.mk (KeepBut.trans (by exact HK.out) (KeepBut.of_grown hg g) (Kd.R_base2 HO_126001.out));clear HO_126001;clear BK112;clear BK125;clear HI0;clear BK148;clear HO161;clear HB;clear HK;have HO_126001:=n0_;have BK112:=n1_;have BK125:=n2_;have HI0:=n3_;have BK148:=n4_;have HO161:=n5_;have HB:=n6_;have HK:=n7_;clear n0_ n1_ n2_ n3_ n4_ n5_ n6_ n7_;clear hg hw hp_;have hcz94_0 : w93.cell? ⟨gb125,0,none⟩ = some (.int .i64 t116):=(blk_cell BK125.out 0).trans rfl;have hcz94_1 : w93.cell? ⟨gb125,1,none⟩ = some (.slice (some ⟨go71,0,none⟩) x126001_1.length co75):=(blk_cell BK125.out 1).trans rfl;have hcz94_2 : w93.cell? ⟨gb125,2,none⟩ = some (.int .i64 t162):=(blk_cell BK125.out 2).trans rfl;have hfz94_0:=blk_frozen BK125.out 0;have hfz94_1:=blk_frozen BK125.out 1;have hfz94_2:=blk_frozen BK125.out 2;have hnb95:=NB112_0.out;have hnc95:=NB0_112.out;have hcz96_0 : w93.cell? ⟨gb112,0,none⟩ = some (.int .i64 0):=(blk_cell BK112.out 0).trans rfl;have hcz96_1 : w93.cell? ⟨gb112,1,none⟩ = some (.slice none 0 0):=(blk_cell BK112.out 1).trans rfl;have hcz96_2 : w93.cell? ⟨gb112,2,none⟩ = some (.int .i64 0):=(blk_cell BK112.out 2).trans rfl;have hfz96_0:=blk_frozen BK112.out 0;have hfz96_1:=blk_frozen BK112.out 1;have hfz96_2:=blk_frozen BK112.out 2))
        refine bodyPost_ret (results_cell_row rfl _ _ gb112 38 #[.int .i64 t116, .slice (some ⟨go71,0,none⟩) x126001_1.length co75, .int .i64 t162] (0,0) _ rfl (by refine blk_put (cs:=#[.int .i64 t116, .slice (some ⟨go71,0,none⟩) x126001_1.length co75, .int .i64 0]) ?_ 2 _ rfl;refine blk_put (cs:=#[.int .i64 t116, .slice none 0 0, .int .i64 0]) ?_ 1 _ rfl;refine blk_put (cs:=#[.int .i64 0, .slice none 0 0, .int .i64 0]) ?_ 0 _ rfl;exact BK112.out) Try.underlying38 rfl (by kernel_rfl)) rfl ?_
        exact ⟨_,by rfl,by exact Kd.R_mono (Kd.R_far (p:=⟨gb112,2,none⟩) (Kd.R_far (p:=⟨gb112,1,none⟩) (Kd.R_far (p:=⟨gb112,0,none⟩) (Kd.R_types HO_126001.out BK112.out (by decide)) (fun _ hk => hk.2) (.int .i64 t116)) (fun _ hk => hk.2) (.slice (some ⟨go71,0,none⟩) x126001_1.length co75)) (fun _ hk => hk.2) (.int .i64 t162)) (fun _ hk => trivial),by repeat ((with_reducible first | exact HI0.out | refine IsS58.far ?_ NB0_112.out _)),by repeat ((with_reducible first | exact HB.out | refine below_set ?_ GE112.out)),by repeat ((with_reducible first | exact HK.out | refine keep_far ?_ GW112.out _))⟩
       ·rw [if_neg c69] at H
        have c69b0 : (t149 == 1) = false:=beq_eq_false_iff_ne.mpr c69
        have c69b1 : (t149 != 1) = true:=bne_iff_ne.mpr c69
        by_cases c97 : t149 = 2
        ·rw [if_pos c97] at H
         have c97b0 : (t149 == 2) = true:=beq_iff_eq.mpr c97
         have c97b1 : (t149 != 2) = false:=bne_eq_false_iff_eq.mpr c97
         clear c97
         obtain ⟨y166,hy166⟩ : ∃ y_ : List Int,y_ = (([0,101] : List Int)):=⟨_,rfl⟩
         replace H : ((spec_l1Cur_among.f s0_0 t150 t151 y166).bind fun bt169 => (some (t116,(x126001_1.set (t144 : Int).toNat (⟨bt169.1,(rd_T51 x126001_1 t144).f1⟩ : S51)),t122,bt169.2.1,bt169.2.2))) = some (r1,r2,r3,r4,r5):=by (rw [hy166];with_reducible exact H)
         have Ny166:=Aside0.mk hy166
         clear hy166
         replace H:=Option.bind_eq_some_iff.mp H
         obtain ⟨⟨t169,t170,t171⟩,A980,H⟩ := H
         replace H : (some (t116,(x126001_1.set (t144 : Int).toNat (⟨t169,(rd_T51 x126001_1 t144).f1⟩ : S51)),t122,t170,t171)) = some (r1,r2,r3,r4,r5):=H
         have A98:=Aside0.mk A980
         clear A980
         obtain ⟨y172,hy172⟩ : ∃ y_ : List (S51),y_ = (x126001_1.set (t144 : Int).toNat (⟨t169,(rd_T51 x126001_1 t144).f1⟩ : S51)):=⟨_,rfl⟩
         replace H : (some (t116,y172,t122,t170,t171)) = some (r1,r2,r3,r4,r5):=by (rw [hy172];with_reducible exact H)
         have Ny172:=Aside0.mk hy172
         clear hy172
         simp only [Option.some.injEq,Prod.mk.injEq] at H
         obtain ⟨rfl,rfl,rfl,rfl,rfl⟩ := H
         have hnb100:=NB125_112.out
         have hnc100:=NB112_125.out
         have hnb101:=NB125_0.out
         have hnc101:=NB0_125.out
         have hcz102_0 : wr.cell? ⟨gb125,0,none⟩ = some (.int .i64 t116):=(blk_cell BK125.out 0).trans rfl
         have hcz102_1 : wr.cell? ⟨gb125,1,none⟩ = some (u126001):=(blk_cell BK125.out 1).trans rfl
         have hcz102_2 : wr.cell? ⟨gb125,2,none⟩ = some (.int .i64 t122):=(blk_cell BK125.out 2).trans rfl
         have hfz102_0:=blk_frozen BK125.out 0
         have hfz102_1:=blk_frozen BK125.out 1
         have hfz102_2:=blk_frozen BK125.out 2
         obtain ⟨Ao103,co103,eo103⟩ := Kd.R_slice HO_126001.out
         subst eo103
         go_wp2_with (first | ((with_reducible refine gate_callee (f:=33) rfl ?_);refine goesL_ (some 37) rfl rfl Try.func33 (by kernel_rfl) rfl #[.pointer (some ⟨g,0,none⟩), .int .i64 (x126001_1.length : Int)] rfl (by (try simp only [List.map_toArray,List.map_cons,List.map_nil]);rfl) ?_;(with_reducible refine (spec_l1Cur_pick.calls g s0_0 x1001_1 x1002_1 (x126001_1.length : Int) t144 t145 t146 w0 _ ?side1 ?side2 A37.out).mono ?_);(case side1 => exact HI0.out);(case side2 => exact HB.out);rintro e w104 ⟨rfl,hi,hb,hk⟩;refine ⟨_,rfl, ?_⟩;have n0_:=Aside0.mk (Kd.R_mono (Kd.R_keep (IsS58.apart (show IsS58 w0 _ g s0_0 x1001_1 x1002_1 from by exact HI0.out) (by exact HO_126001.out) (by decide)) hk (fun _ h => h.2)) (fun _ h => h.1));have n1_:=Aside0.mk (KeepBut.blk hk (g':=gb112) (o := .cells #[.int .i64 0, .slice none 0 0, .int .i64 0] 38 (0,0)) (by exact BK112.out) NB112_0.out (by simp));have n2_:=Aside0.mk (KeepBut.blk hk (g':=gb125) (o := .cells #[.int .i64 t116, .slice Ao103 x126001_1.length co103, .int .i64 t122] 38 (0,0)) (by exact BK125.out) NB125_0.out (by simp));have n3_:=Aside0.mk (KeepBut.trans (by exact HK.out) hk (.inl rfl));have n4_:=Aside0.mk (hb);have n5_:=Aside0.mk (hi);clear HO_126001;clear BK112;clear BK125;clear HK;clear HB;clear HI0;have HO_126001:=n0_;have BK112:=n1_;have BK125:=n2_;have HK:=n3_;have HB:=n4_;have HI0:=n5_;clear n0_ n1_ n2_ n3_ n4_ n5_;(try clear hb);(try clear hk);(try clear hi);have hcz105_0 : w104.cell? ⟨gb125,0,none⟩ = some (.int .i64 t116):=(blk_cell BK125.out 0).trans rfl;have hcz105_1 : w104.cell? ⟨gb125,1,none⟩ = some (.slice Ao103 x126001_1.length co103):=(blk_cell BK125.out 1).trans rfl;have hcz105_2 : w104.cell? ⟨gb125,2,none⟩ = some (.int .i64 t122):=(blk_cell BK125.out 2).trans rfl;have hfz105_0:=blk_frozen BK125.out 0;have hfz105_1:=blk_frozen BK125.out 1;have hfz105_2:=blk_frozen BK125.out 2;have p147 : 0 ≤ (t144 : Int):=of_decide_eq_true (by (with_reducible assumption));have q147 : t144 < (x126001_1.length : Int):=of_decide_eq_true (by (with_reducible assumption));obtain ⟨ad147,e147,hx147_0,hx147_1⟩ := at_T51 (Kd.R_reads' HO_126001.out).2.2 t144 p147 q147;cases e147;replace p147:=eq_true p147;replace q147:=eq_true q147) | ((with_reducible refine gate_dst (N:=6) rfl ?_);refine box_event ?hg (N:=6) ?hd (cs:=#[.int .i64 0, .int .i64 0]) (t:=51) ?hr ?_;(case hd => rfl);(case hg => rfl);(case hr => (go_simp;done));intro gb148 hg w106 hbox hb;have n0_:=Aside0.mk (Kd.R_below (Kd.R_elderB (by exact HO_126001.out) gb148 (Nat.le_of_eq hg.symm)) hb);have n1_:=Aside0.mk (blk_below (g:=gb112) (o := .cells #[.int .i64 0, .slice none 0 0, .int .i64 0] 38 (0,0)) (by exact BK112.out) hb);have n2_:=Aside0.mk (blk_below (g:=gb125) (o := .cells #[.int .i64 t116, .slice (some ad147) x126001_1.length co103, .int .i64 t122] 38 (0,0)) (by exact BK125.out) hb);have n3_:=Aside0.mk (IsS58.below (by exact HI0.out) hb);have n4_:=Aside0.mk (KeepBut.trans (by exact HK.out) (KeepBut.of_below hb g none) (.inl rfl));have n5_:=Aside0.mk (below_step (by exact HB.out) hb);have n6_:=Aside0.mk (hbox);have n7_:=Aside0.mk ((by rw [hg];exact (keep_size (w:=w) (g:=g) (row:=none) (by exact HK.out)) : w.heap.size ≤ gb148));have n8_:=Aside0.mk ((Nat.le_trans HW0.out (by rw [hg];exact (keep_size (w:=w) (g:=g) (row:=none) (by exact HK.out)) : w.heap.size ≤ gb148) : w0.heap.size ≤ gb148));have n9_:=Aside0.mk ((by rw [hg];exact Nat.ne_of_lt (blk_lt (g:=gb112) (o := .cells #[.int .i64 0, .slice none 0 0, .int .i64 0] 38 (0,0)) (by exact BK112.out)) : gb112 ≠ gb148));have n10_:=Aside0.mk ((by rw [hg];exact Nat.ne_of_gt (blk_lt (g:=gb112) (o := .cells #[.int .i64 0, .slice none 0 0, .int .i64 0] 38 (0,0)) (by exact BK112.out)) : gb148 ≠ gb112));have n11_:=Aside0.mk ((by rw [hg];exact Nat.ne_of_lt (blk_lt (g:=gb125) (o := .cells #[.int .i64 t116, .slice (some ad147) x126001_1.length co103, .int .i64 t122] 38 (0,0)) (by exact BK125.out)) : gb125 ≠ gb148));have n12_:=Aside0.mk ((by rw [hg];exact Nat.ne_of_gt (blk_lt (g:=gb125) (o := .cells #[.int .i64 t116, .slice (some ad147) x126001_1.length co103, .int .i64 t122] 38 (0,0)) (by exact BK125.out)) : gb148 ≠ gb125));have n13_:=Aside0.mk ((by rw [hg];exact Nat.ne_of_lt (IsS58.lt (show IsS58 w0 _ g s0_0 t145 t146 from by exact HI0.out)) : g ≠ gb148));have n14_:=Aside0.mk ((by rw [hg];exact Nat.ne_of_gt (IsS58.lt (show IsS58 w0 _ g s0_0 t145 t146 from by exact HI0.out)) : gb148 ≠ g));clear HO_126001;clear BK112;clear BK125;clear HI0;clear HK;clear HB;have HO_126001:=n0_;have BK112:=n1_;have BK125:=n2_;have HI0:=n3_;have HK:=n4_;have HB:=n5_;have BK148:=n6_;have GW148:=n7_;have GE148:=n8_;have NB112_148:=n9_;have NB148_112:=n10_;have NB125_148:=n11_;have NB148_125:=n12_;have NB0_148:=n13_;have NB148_0:=n14_;clear n0_ n1_ n2_ n3_ n4_ n5_ n6_ n7_ n8_ n9_ n10_ n11_ n12_ n13_ n14_;clear hb hbox hg;have hnb107:=NB148_112.out;have hnc107:=NB112_148.out;have hnb108:=NB148_125.out;have hnc108:=NB125_148.out;have hnb109:=NB148_0.out;have hnc109:=NB0_148.out;have hcz110_0 : w106.cell? ⟨gb148,0,none⟩ = some (.int .i64 0):=(blk_cell BK148.out 0).trans rfl;have hcz110_1 : w106.cell? ⟨gb148,1,none⟩ = some (.int .i64 0):=(blk_cell BK148.out 1).trans rfl;have hfz110_0:=blk_frozen BK148.out 0;have hfz110_1:=blk_frozen BK148.out 1) | ((with_reducible refine gate_callee (f:=33) rfl ?_);refine goesL_ (some 44) rfl rfl Try.func33 (by kernel_rfl) rfl #[.pointer (some ⟨g,0,none⟩), .int .i64 40] rfl (by (try simp only [List.map_toArray,List.map_cons,List.map_nil]);rfl) ?_;(with_reducible refine (spec_l1Cur_pick.calls g s0_0 t145 t146 40 t149 t150 t151 w0 _ ?side1 ?side2 A40.out).mono ?_);(case side1 => repeat ((with_reducible first | exact HI0.out | refine IsS58.far ?_ NB0_148.out _)));(case side2 => repeat ((with_reducible first | exact HB.out | refine below_set ?_ GE148.out)));rintro e w111 ⟨rfl,hi,hb,hk⟩;refine ⟨_,rfl, ?_⟩;have n0_:=Aside0.mk (Kd.R_mono (Kd.R_keep (IsS58.apart (show IsS58 w0 _ g s0_0 t145 t146 from by repeat ((with_reducible first | exact HI0.out | refine IsS58.far ?_ NB0_148.out _))) (by exact (Kd.R_mono (Kd.R_far (p:=⟨gb148,1,none⟩) (Kd.R_far (p:=⟨gb148,0,none⟩) (Kd.R_mono HO_126001.out (fun k_ hk => (⟨hk,hk.2⟩ : _ ∧ k_ ≠ gb148))) (fun _ hk => hk.2) (.int .i64 ((rd_T51 x126001_1 t144).f0))) (fun _ hk => hk.2) (.int .i64 ((rd_T51 x126001_1 t144).f1))) (fun _ h_ => h_.1))) (by decide)) hk (fun _ h => h.2)) (fun _ h => h.1));have n1_:=Aside0.mk (KeepBut.blk hk (g':=gb112) (o := .cells #[.int .i64 0, .slice none 0 0, .int .i64 0] 38 (0,0)) (by refine blk_far ?_ NB112_148.out _;refine blk_far ?_ NB112_148.out _;exact BK112.out) NB112_0.out (by simp));have n2_:=Aside0.mk (KeepBut.blk hk (g':=gb125) (o := .cells #[.int .i64 t116, .slice (some ad147) x126001_1.length co103, .int .i64 t122] 38 (0,0)) (by refine blk_far ?_ NB125_148.out _;refine blk_far ?_ NB125_148.out _;exact BK125.out) NB125_0.out (by simp));have n3_:=Aside0.mk (KeepBut.blk hk (g':=gb148) (o := .cells #[.int .i64 ((rd_T51 x126001_1 t144).f0), .int .i64 ((rd_T51 x126001_1 t144).f1)] 51 (0,0)) (by refine blk_put (cs:=#[.int .i64 ((rd_T51 x126001_1 t144).f0), .int .i64 0]) ?_ 1 _ rfl;refine blk_put (cs:=#[.int .i64 0, .int .i64 0]) ?_ 0 _ rfl;exact BK148.out) NB148_0.out (by simp));have n4_:=Aside0.mk (KeepBut.trans (by repeat ((with_reducible first | exact HK.out | refine keep_far ?_ GW148.out _))) hk (.inl rfl));have n5_:=Aside0.mk (hb);have n6_:=Aside0.mk (hi);clear HO_126001;clear BK112;clear BK125;clear BK148;clear HK;clear HB;clear HI0;have HO_126001:=n0_;have BK112:=n1_;have BK125:=n2_;have BK148:=n3_;have HK:=n4_;have HB:=n5_;have HI0:=n6_;clear n0_ n1_ n2_ n3_ n4_ n5_ n6_;(try clear hb);(try clear hk);(try clear hi)) | ((with_reducible refine gate_dst (N:=60) rfl ?_);refine Kd.R_lit (Kd.int .i64) _ 3 ?hg (N:=60) ?hd (xs:=([0,101] : List Int)) (inner := [.int .i64 0, .int .i64 101]) (ok:=fun _ => True) (okp:=fun _ => True) ?hr ?hp (fun _ hk => hk) trivial (Below.refl _ _) (Nat.le_refl _) (by simp) ?_;(case hd => rfl);(case hg => rfl);(case hr => (go_simp;done));(case hp => exact (Reps.one (show Kd.M (Kd.int .i64) _ _ _ 0 [.int .i64 0] from rfl) (Reps.one (show Kd.M (Kd.int .i64) _ _ _ 101 [.int .i64 101] from rfl) (Reps.none _ _))));intro v167 w112 ho113 hb hg_ hnew_;clear hg_ hnew_;(rw [← Ny166.out] at ho113);have n0_:=Aside0.mk (Kd.R_below (by exact HO_126001.out) hb);have n1_:=Aside0.mk (Kd.R_lower ho113 (keep_size (w:=w) (g:=g) (row:=none) (by exact HK.out)));have n2_:=Aside0.mk (blk_below (g:=gb112) (o := .cells #[.int .i64 0, .slice none 0 0, .int .i64 0] 38 (0,0)) (by exact BK112.out) hb);have n3_:=Aside0.mk (blk_below (g:=gb125) (o := .cells #[.int .i64 t116, .slice (some ad147) x126001_1.length co103, .int .i64 t122] 38 (0,0)) (by exact BK125.out) hb);have n4_:=Aside0.mk (IsS58.below (by exact HI0.out) hb);have n5_:=Aside0.mk (blk_below (g:=gb148) (o := .cells #[.int .i64 ((rd_T51 x126001_1 t144).f0), .int .i64 ((rd_T51 x126001_1 t144).f1)] 51 (0,0)) (by exact BK148.out) hb);have n6_:=Aside0.mk (KeepBut.trans (by exact HK.out) (KeepBut.of_below hb g none) (.inl rfl));have n7_:=Aside0.mk (below_step (by exact HB.out) hb);clear HO_126001;clear BK112;clear BK125;clear HI0;clear BK148;clear HK;clear HB;have HO_126001:=n0_;have HO168:=n1_;have BK112:=n2_;have BK125:=n3_;have HI0:=n4_;have BK148:=n5_;have HK:=n6_;have HB:=n7_;clear n0_ n1_ n2_ n3_ n4_ n5_ n6_ n7_;clear hb ho113;obtain ⟨Ao114,co114,eo114⟩ := Kd.R_slice HO168.out;subst eo114) | ((with_reducible refine gate_callee (f:=36) rfl ?_);refine goesL_ (some 61) rfl rfl Try.func36 (by kernel_rfl) rfl #[.pointer (some ⟨g,0,none⟩), .slice Ao114 y166.length co114] rfl (by (try simp only [List.map_toArray,List.map_cons,List.map_nil]);rfl) ?_;(with_reducible refine (spec_l1Cur_among.calls g s0_0 t150 t151 _ _ y166 t169 t170 t171 w0 _ ?side1 ?side2 ?side3 ?side4 ?side5 A98.out).mono ?_);(case side1 => exact HI0.out);(case side2 => exact HB.out);(case side3 => repeat (exact (Kd.R_reads' HO168.out).2.2));(case side4 => exact (Kd.R_reads' HO168.out).2.1);(case side5 => exact far_slice (IsS58.own_ne HI0.out HO168.out (by decide)));rintro e w115 ⟨rfl,hi,hb,hk⟩;refine ⟨_,rfl, ?_⟩;have n0_:=Aside0.mk (Kd.R_mono (Kd.R_keep (IsS58.apart (show IsS58 w0 _ g s0_0 t150 t151 from by exact HI0.out) (by exact HO_126001.out) (by decide)) hk (fun _ h => h.2)) (fun _ h => h.1));have n1_:=Aside0.mk (KeepBut.blk hk (g':=gb112) (o := .cells #[.int .i64 0, .slice none 0 0, .int .i64 0] 38 (0,0)) (by exact BK112.out) NB112_0.out (by simp));have n2_:=Aside0.mk (KeepBut.blk hk (g':=gb125) (o := .cells #[.int .i64 t116, .slice (some ad147) x126001_1.length co103, .int .i64 t122] 38 (0,0)) (by exact BK125.out) NB125_0.out (by simp));have n3_:=Aside0.mk (KeepBut.blk hk (g':=gb148) (o := .cells #[.int .i64 ((rd_T51 x126001_1 t144).f0), .int .i64 ((rd_T51 x126001_1 t144).f1)] 51 (0,0)) (by exact BK148.out) NB148_0.out (by simp));have n4_:=Aside0.mk (Kd.R_mono (Kd.R_keep (IsS58.apart (show IsS58 w0 _ g s0_0 t150 t151 from by exact HI0.out) (by exact HO168.out) (by decide)) hk (fun _ h => h.2)) (fun _ h => h.1));have n5_:=Aside0.mk (KeepBut.trans (by exact HK.out) hk (.inl rfl));have n6_:=Aside0.mk (hb);have n7_:=Aside0.mk (hi);clear HO_126001;clear BK112;clear BK125;clear BK148;clear HO168;clear HK;clear HB;clear HI0;have HO_126001:=n0_;have BK112:=n1_;have BK125:=n2_;have BK148:=n3_;have HO168:=n4_;have HK:=n5_;have HB:=n6_;have HI0:=n7_;clear n0_ n1_ n2_ n3_ n4_ n5_ n6_ n7_;(try clear hb);(try clear hk);(try clear hi);have hcz116_0 : w115.cell? ⟨gb148,0,none⟩ = some (.int .i64 ((rd_T51 x126001_1 t144).f0)):=(blk_cell BK148.out 0).trans rfl;have hcz116_1 : w115.cell? ⟨gb148,1,none⟩ = some (.int .i64 ((rd_T51 x126001_1 t144).f1)):=(blk_cell BK148.out 1).trans rfl;have hfz116_0:=blk_frozen BK148.out 0;have hfz116_1:=blk_frozen BK148.out 1) | ((with_reducible refine gate_store (t:=3) (p:=62) rfl ?_);refine store_event (t:=3) (p:=62) (v:=?vo_w117) (w1:=(w115.setCell ⟨gb148,0,none⟩ (.int .i64 t169))) ?hg ?ho ?hn ?hr ?_;(case ho => rfl);(case hg => rfl);(case hn => rfl);(case hr => (go_simp;done));intro w117 hw;have n0_ : Aside0 (Kd.R k51 51 w117 w.heap.size (fun k_ => k_ ≠ gb148) (.slice (some ad147) x126001_1.length co103) x126001_1):=⟨(by rw [hw];exact (by exact Kd.R_mono (Kd.R_far (p:=⟨gb148,0,none⟩) (Kd.R_mono HO_126001.out (fun k_ hk => (⟨hk,hk.2⟩ : _ ∧ k_ ≠ gb148))) (fun _ hk => hk.2) (.int .i64 t169)) (fun _ hk => hk.1.2)))⟩;have n1_ : Aside0 (Kd.R (Kd.int .i64) 3 w117 w.heap.size (fun _ => True) (.slice Ao114 y166.length co114) y166):=⟨(by rw [hw];exact (by exact Kd.R_mono (Kd.R_far (p:=⟨gb148,0,none⟩) (Kd.R_types HO168.out BK148.out (by decide)) (fun _ hk => hk.2) (.int .i64 t169)) (fun _ hk => trivial)))⟩;have n2_ : Aside0 (w117.heap[gb112]? = some (.cells #[.int .i64 0, .slice none 0 0, .int .i64 0] 38 (0,0))):=⟨(by rw [hw];exact (by refine blk_far ?_ NB112_148.out _;exact BK112.out))⟩;have n3_ : Aside0 (w117.heap[gb125]? = some (.cells #[.int .i64 t116, .slice (some ad147) x126001_1.length co103, .int .i64 t122] 38 (0,0))):=⟨(by rw [hw];exact (by refine blk_far ?_ NB125_148.out _;exact BK125.out))⟩;have n4_ : Aside0 (w117.heap[gb148]? = some (.cells #[.int .i64 t169, .int .i64 ((rd_T51 x126001_1 t144).f1)] 51 (0,0))):=⟨(by rw [hw];exact (by refine blk_put (cs:=#[.int .i64 ((rd_T51 x126001_1 t144).f0), .int .i64 ((rd_T51 x126001_1 t144).f1)]) ?_ 0 _ rfl;exact BK148.out))⟩;have n5_ : Aside0 (IsS58 w0 w117 g s0_0 t170 t171):=⟨(by rw [hw];exact (by repeat ((with_reducible first | exact HI0.out | refine IsS58.far ?_ NB0_148.out _))))⟩;have n6_ : Aside0 (KeepBut w w117 g none):=⟨(by rw [hw];exact (by repeat ((with_reducible first | exact HK.out | refine keep_far ?_ GW148.out _))))⟩;have n7_ : Aside0 (Below w0.heap.size w0 w117):=⟨(by rw [hw];exact (by repeat ((with_reducible first | exact HB.out | refine below_set ?_ GE148.out))))⟩;clear hw;clear HO_126001;clear HO168;clear BK112;clear BK125;clear BK148;clear HI0;clear HK;clear HB;have HO_126001:=n0_;have HO168:=n1_;have BK112:=n2_;have BK125:=n3_;have BK148:=n4_;have HI0:=n5_;have HK:=n6_;have HB:=n7_;clear n0_ n1_ n2_ n3_ n4_ n5_ n6_ n7_;have hcz118_0 : w117.cell? ⟨gb125,0,none⟩ = some (.int .i64 t116):=(blk_cell BK125.out 0).trans rfl;have hcz118_1 : w117.cell? ⟨gb125,1,none⟩ = some (.slice (some ad147) x126001_1.length co103):=(blk_cell BK125.out 1).trans rfl;have hcz118_2 : w117.cell? ⟨gb125,2,none⟩ = some (.int .i64 t122):=(blk_cell BK125.out 2).trans rfl;have hfz118_0:=blk_frozen BK125.out 0;have hfz118_1:=blk_frozen BK125.out 1;have hfz118_2:=blk_frozen BK125.out 2;have hcz119_0 : w117.cell? ⟨gb148,0,none⟩ = some (.int .i64 t169):=(blk_cell BK148.out 0).trans rfl;have hcz119_1 : w117.cell? ⟨gb148,1,none⟩ = some (.int .i64 ((rd_T51 x126001_1 t144).f1)):=(blk_cell BK148.out 1).trans rfl;have hfz119_0:=blk_frozen BK148.out 0;have hfz119_1:=blk_frozen BK148.out 1;have p99 : 0 ≤ (t144 : Int):=of_decide_eq_true (by (with_reducible assumption));have q99 : (t144 : Int) < ((x126001_1.length : Int) : Int):=of_decide_eq_true (by (with_reducible assumption));obtain ⟨go99,co99,eo99,gb99,gl99,cl99,HG99⟩ := Kd.R_form HO_126001.out (by omega);(cases eo99);have GB99:=Aside0.mk gb99;have GG99:=Aside0.mk HG99;clear gb99 gl99 HG99;(simp only [add_plain] at hx147_0);(simp only [add_plain] at hx147_1);obtain ⟨ce99,hcl99,hM99,hcc99,hfr99⟩ := Kd.R_elem HO_126001.out z51 (t144 : Int) p99 q99;obtain rfl:=k51_openM hM99;have hx99_0 : w117.cell? ⟨go99,(t144 : Int).toNat * 2,none⟩ = some (.int .i64 ((rd_T51 x126001_1 t144).f0)):=hcc99 0 _ rfl;have hx99_1 : w117.cell? ⟨go99,(t144 : Int).toNat * 2 + 1,none⟩ = some (.int .i64 ((rd_T51 x126001_1 t144).f1)):=hcc99 1 _ rfl;have hf99_0 : w117.frozen? ⟨go99,(t144 : Int).toNat * 2,none⟩ = false:=hfr99 0;have hf99_1 : w117.frozen? ⟨go99,(t144 : Int).toNat * 2 + 1,none⟩ = false:=hfr99 1;clear hcl99 hcc99 hfr99;(try clear hM99);replace p99:=eq_true p99;replace q99:=eq_true q99;have HX120:=Aside0.mk (show Kd.R k51 51 w117 w.heap.size (fun k_ => k_ ≠ gb148) (.slice (some ⟨go99,0,none⟩) x126001_1.length co103) x126001_1 from (by exact HO_126001.out));obtain ⟨ce120,hcl120,hM120,hcc120,hfr120⟩ := Kd.R_elem HX120.out z51 (t144 : Int) (of_decide_eq_true (by (with_reducible assumption))) (by have h_ : (t144 : Int) < ((x126001_1.length : Int) : Int):=of_decide_eq_true (by (with_reducible assumption));exact h_);obtain rfl:=k51_openM hM120;have HP120:=Kd.R_seg HX120.out (t144 : Int) (of_decide_eq_true (by (with_reducible assumption))) (by have h_ : (t144 : Int) < ((x126001_1.length : Int) : Int):=of_decide_eq_true (by (with_reducible assumption));exact h_) (seg := [.int .i64 t169, .int .i64 ((rd_T51 x126001_1 t144).f1)]) (j:=0) hcl120 hcc120 (show 2 ≤ 2 from by decide) (x':=(⟨t169,(rd_T51 x126001_1 t144).f1⟩ : S51)) (k51_mkM _ _ _ (⟨t169,(rd_T51 x126001_1 t144).f1⟩ : S51) ) (fun _ hk => hk);have hx120_0:=hcc120 0 _ rfl;(try simp only [show (k51).sz = 2 from rfl,Nat.mul_one,Nat.add_zero] at hx120_0);have hf120_0:=hfr120 0;(try simp only [show (k51).sz = 2 from rfl,Nat.mul_one,Nat.add_zero] at hf120_0);have hx120_1:=hcc120 1 _ rfl;(try simp only [show (k51).sz = 2 from rfl,Nat.mul_one,Nat.add_zero] at hx120_1);have hf120_1:=hfr120 1;(try simp only [show (k51).sz = 2 from rfl,Nat.mul_one,Nat.add_zero] at hf120_1);clear hcl120 hcc120 hfr120;(try clear hM120)) | ((with_reducible refine gate_store (t:=51) (p:=88) rfl ?_);refine store_event (t:=51) (p:=88) (v:=?vo_w121) (w1:=((w117.setCell ⟨go99,(t144 : Int).toNat * 2,none⟩ (.int .i64 t169)).setCell ⟨go99,(t144 : Int).toNat * 2 + 1,none⟩ (.int .i64 ((rd_T51 x126001_1 t144).f1)))) ?hg ?ho ?hn ?hr ?_;(case ho => rfl);(case hg => rfl);(case hn => rfl);(case hr => (go_simp;done));intro w121 hw;have hg : w117.grownBy w121 (some go99):=(by rw [hw];exact HP120.2);have hp_ : Kd.R k51 51 w121 w.heap.size (fun k_ => k_ ≠ gb148) (.slice (some ⟨go99,0,none⟩) x126001_1.length co103) y172:=(by rw [hw,Ny172.out];exact HP120.1);clear HP120;have n0_:=Aside0.mk (hp_);have n1_:=Aside0.mk (blk_grown (g:=gb112) (o := .cells #[.int .i64 0, .slice none 0 0, .int .i64 0] 38 (0,0)) (by exact BK112.out) hg (Kd.R_ne HO_126001.out BK112.out (by decide)));have n2_:=Aside0.mk (blk_grown (g:=gb125) (o := .cells #[.int .i64 t116, .slice (some ⟨go99,0,none⟩) x126001_1.length co103, .int .i64 t122] 38 (0,0)) (by exact BK125.out) hg (Kd.R_ne HO_126001.out BK125.out (by decide)));have n3_:=Aside0.mk (IsS58.grown (by exact HI0.out) hg (IsS58.own_ne HI0.out HO_126001.out (by decide)));have n4_:=Aside0.mk (blk_grown (g:=gb148) (o := .cells #[.int .i64 t169, .int .i64 ((rd_T51 x126001_1 t144).f1)] 51 (0,0)) (by exact BK148.out) hg (Kd.R_away HO_126001.out (fun _ hk => hk)));have n5_:=Aside0.mk (Kd.R_over' (v:=(.slice (some ⟨go99,0,none⟩) x126001_1.length co103)) (by exact HO168.out) (Kd.R_typed HO_126001.out) (by decide) hg);have n6_:=Aside0.mk ((by rw [hw];exact below_set (below_set (HB.out) (Nat.le_trans HL.out GB99.out)) (Nat.le_trans HL.out GB99.out) : Below w0.heap.size w0 w121));have n7_:=Aside0.mk (KeepBut.trans (by exact HK.out) (KeepBut.of_grown hg g) (Kd.R_base2 HO_126001.out));clear HO_126001;clear BK112;clear BK125;clear HI0;clear BK148;clear HO168;clear HB;clear HK;have HO_126001:=n0_;have BK112:=n1_;have BK125:=n2_;have HI0:=n3_;have BK148:=n4_;have HO168:=n5_;have HB:=n6_;have HK:=n7_;clear n0_ n1_ n2_ n3_ n4_ n5_ n6_ n7_;clear hg hw hp_;have hcz122_0 : w121.cell? ⟨gb125,0,none⟩ = some (.int .i64 t116):=(blk_cell BK125.out 0).trans rfl;have hcz122_1 : w121.cell? ⟨gb125,1,none⟩ = some (.slice (some ⟨go99,0,none⟩) x126001_1.length co103):=(blk_cell BK125.out 1).trans rfl;have hcz122_2 : w121.cell? ⟨gb125,2,none⟩ = some (.int .i64 t122):=(blk_cell BK125.out 2).trans rfl;have hfz122_0:=blk_frozen BK125.out 0;have hfz122_1:=blk_frozen BK125.out 1;have hfz122_2:=blk_frozen BK125.out 2;have hnb123:=NB112_0.out;have hnc123:=NB0_112.out;have hcz124_0 : w121.cell? ⟨gb112,0,none⟩ = some (.int .i64 0):=(blk_cell BK112.out 0).trans rfl;have hcz124_1 : w121.cell? ⟨gb112,1,none⟩ = some (.slice none 0 0):=(blk_cell BK112.out 1).trans rfl;have hcz124_2 : w121.cell? ⟨gb112,2,none⟩ = some (.int .i64 0):=(blk_cell BK112.out 2).trans rfl;have hfz124_0:=blk_frozen BK112.out 0;have hfz124_1:=blk_frozen BK112.out 1;have hfz124_2:=blk_frozen BK112.out 2))
         refine bodyPost_ret (results_cell_row rfl _ _ gb112 38 #[.int .i64 t116, .slice (some ⟨go99,0,none⟩) x126001_1.length co103, .int .i64 t122] (0,0) _ rfl (by refine blk_put (cs:=#[.int .i64 t116, .slice (some ⟨go99,0,none⟩) x126001_1.length co103, .int .i64 0]) ?_ 2 _ rfl;refine blk_put (cs:=#[.int .i64 t116, .slice none 0 0, .int .i64 0]) ?_ 1 _ rfl;refine blk_put (cs:=#[.int .i64 0, .slice none 0 0, .int .i64 0]) ?_ 0 _ rfl;exact BK112.out) Try.underlying38 rfl (by kernel_rfl)) rfl ?_
         exact ⟨_,by rfl,by exact Kd.R_mono (Kd.R_far (p:=⟨gb112,2,none⟩) (Kd.R_far (p:=⟨gb112,1,none⟩) (Kd.R_far (p:=⟨gb112,0,none⟩) (Kd.R_types HO_126001.out BK112.out (by decide)) (fun _ hk => hk.2) (.int .i64 t116)) (fun _ hk => hk.2) (.slice (some ⟨go99,0,none⟩) x126001_1.length co103)) (fun _ hk => hk.2) (.int .i64 t122)) (fun _ hk => trivial),by repeat ((with_reducible first | exact HI0.out | refine IsS58.far ?_ NB0_112.out _)),by repeat ((with_reducible first | exact HB.out | refine below_set ?_ GE112.out)),by repeat ((with_reducible first | exact HK.out | refine keep_far ?_ GW112.out _))⟩
        ·rw [if_neg c97] at H
         have c97b0 : (t149 == 2) = false:=beq_eq_false_iff_ne.mpr c97
         have c97b1 : (t149 != 2) = true:=bne_iff_ne.mpr c97
         by_cases c125 : t149 = 3
         ·rw [if_pos c125] at H
          have c125b0 : (t149 == 3) = true:=beq_iff_eq.mpr c125
          have c125b1 : (t149 != 3) = false:=bne_eq_false_iff_eq.mpr c125
          clear c125
          obtain ⟨y173,hy173⟩ : ∃ y_ : List Int,y_ = (([(-1),10001] : List Int)):=⟨_,rfl⟩
          replace H : ((spec_l1Cur_among.f s0_0 t150 t151 y173).bind fun bt176 => (some (t116,(x126001_1.set (t144 : Int).toNat (⟨(rd_T51 x126001_1 t144).f0,bt176.1⟩ : S51)),t122,bt176.2.1,bt176.2.2))) = some (r1,r2,r3,r4,r5):=by (rw [hy173];with_reducible exact H)
          have Ny173:=Aside0.mk hy173
          clear hy173
          replace H:=Option.bind_eq_some_iff.mp H
          obtain ⟨⟨t176,t177,t178⟩,A1260,H⟩ := H
          replace H : (some (t116,(x126001_1.set (t144 : Int).toNat (⟨(rd_T51 x126001_1 t144).f0,t176⟩ : S51)),t122,t177,t178)) = some (r1,r2,r3,r4,r5):=H
          have A126:=Aside0.mk A1260
          clear A1260
          obtain ⟨y179,hy179⟩ : ∃ y_ : List (S51),y_ = (x126001_1.set (t144 : Int).toNat (⟨(rd_T51 x126001_1 t144).f0,t176⟩ : S51)):=⟨_,rfl⟩
          replace H : (some (t116,y179,t122,t177,t178)) = some (r1,r2,r3,r4,r5):=by (rw [hy179];with_reducible exact H)
          have Ny179:=Aside0.mk hy179
          clear hy179
          simp only [Option.some.injEq,Prod.mk.injEq] at H
          obtain ⟨rfl,rfl,rfl,rfl,rfl⟩ := H
          have hnb128:=NB125_112.out
          have hnc128:=NB112_125.out
          have hnb129:=NB125_0.out
          have hnc129:=NB0_125.out
          have hcz130_0 : wr.cell? ⟨gb125,0,none⟩ = some (.int .i64 t116):=(blk_cell BK125.out 0).trans rfl
          have hcz130_1 : wr.cell? ⟨gb125,1,none⟩ = some (u126001):=(blk_cell BK125.out 1).trans rfl
          have hcz130_2 : wr.cell? ⟨gb125,2,none⟩ = some (.int .i64 t122):=(blk_cell BK125.out 2).trans rfl
          have hfz130_0:=blk_frozen BK125.out 0
          have hfz130_1:=blk_frozen BK125.out 1
          have hfz130_2:=blk_frozen BK125.out 2
          obtain ⟨Ao131,co131,eo131⟩ := Kd.R_slice HO_126001.out
          subst eo131
          go_wp2_with (first | ((with_reducible refine gate_callee (f:=33) rfl ?_);refine goesL_ (some 37) rfl rfl Try.func33 (by kernel_rfl) rfl #[.pointer (some ⟨g,0,none⟩), .int .i64 (x126001_1.length : Int)] rfl (by (try simp only [List.map_toArray,List.map_cons,List.map_nil]);rfl) ?_;(with_reducible refine (spec_l1Cur_pick.calls g s0_0 x1001_1 x1002_1 (x126001_1.length : Int) t144 t145 t146 w0 _ ?side1 ?side2 A37.out).mono ?_);(case side1 => exact HI0.out);(case side2 => exact HB.out);rintro e w132 ⟨rfl,hi,hb,hk⟩;refine ⟨_,rfl, ?_⟩;have n0_:=Aside0.mk (Kd.R_mono (Kd.R_keep (IsS58.apart (show IsS58 w0 _ g s0_0 x1001_1 x1002_1 from by exact HI0.out) (by exact HO_126001.out) (by decide)) hk (fun _ h => h.2)) (fun _ h => h.1));have n1_:=Aside0.mk (KeepBut.blk hk (g':=gb112) (o := .cells #[.int .i64 0, .slice none 0 0, .int .i64 0] 38 (0,0)) (by exact BK112.out) NB112_0.out (by simp));have n2_:=Aside0.mk (KeepBut.blk hk (g':=gb125) (o := .cells #[.int .i64 t116, .slice Ao131 x126001_1.length co131, .int .i64 t122] 38 (0,0)) (by exact BK125.out) NB125_0.out (by simp));have n3_:=Aside0.mk (KeepBut.trans (by exact HK.out) hk (.inl rfl));have n4_:=Aside0.mk (hb);have n5_:=Aside0.mk (hi);clear HO_126001;clear BK112;clear BK125;clear HK;clear HB;clear HI0;have HO_126001:=n0_;have BK112:=n1_;have BK125:=n2_;have HK:=n3_;have HB:=n4_;have HI0:=n5_;clear n0_ n1_ n2_ n3_ n4_ n5_;(try clear hb);(try clear hk);(try clear hi);have hcz133_0 : w132.cell? ⟨gb125,0,none⟩ = some (.int .i64 t116):=(blk_cell BK125.out 0).trans rfl;have hcz133_1 : w132.cell? ⟨gb125,1,none⟩ = some (.slice Ao131 x126001_1.length co131):=(blk_cell BK125.out 1).trans rfl;have hcz133_2 : w132.cell? ⟨gb125,2,none⟩ = some (.int .i64 t122):=(blk_cell BK125.out 2).trans rfl;have hfz133_0:=blk_frozen BK125.out 0;have hfz133_1:=blk_frozen BK125.out 1;have hfz133_2:=blk_frozen BK125.out 2;have p147 : 0 ≤ (t144 : Int):=of_decide_eq_true (by (with_reducible assumption));have q147 : t144 < (x126001_1.length : Int):=of_decide_eq_true (by (with_reducible assumption));obtain ⟨ad147,e147,hx147_0,hx147_1⟩ := at_T51 (Kd.R_reads' HO_126001.out).2.2 t144 p147 q147;cases e147;replace p147:=eq_true p147;replace q147:=eq_true q147) | ((with_reducible refine gate_dst (N:=6) rfl ?_);refine box_event ?hg (N:=6) ?hd (cs:=#[.int .i64 0, .int .i64 0]) (t:=51) ?hr ?_;(case hd => rfl);(case hg => rfl);(case hr => (go_simp;done));intro gb148 hg w134 hbox hb;have n0_:=Aside0.mk (Kd.R_below (Kd.R_elderB (by exact HO_126001.out) gb148 (Nat.le_of_eq hg.symm)) hb);have n1_:=Aside0.mk (blk_below (g:=gb112) (o := .cells #[.int .i64 0, .slice none 0 0, .int .i64 0] 38 (0,0)) (by exact BK112.out) hb);have n2_:=Aside0.mk (blk_below (g:=gb125) (o := .cells #[.int .i64 t116, .slice (some ad147) x126001_1.length co131, .int .i64 t122] 38 (0,0)) (by exact BK125.out) hb);have n3_:=Aside0.mk (IsS58.below (by exact HI0.out) hb);have n4_:=Aside0.mk (KeepBut.trans (by exact HK.out) (KeepBut.of_below hb g none) (.inl rfl));have n5_:=Aside0.mk (below_step (by exact HB.out) hb);have n6_:=Aside0.mk (hbox);have n7_:=Aside0.mk ((by rw [hg];exact (keep_size (w:=w) (g:=g) (row:=none) (by exact HK.out)) : w.heap.size ≤ gb148));have n8_:=Aside0.mk ((Nat.le_trans HW0.out (by rw [hg];exact (keep_size (w:=w) (g:=g) (row:=none) (by exact HK.out)) : w.heap.size ≤ gb148) : w0.heap.size ≤ gb148));have n9_:=Aside0.mk ((by rw [hg];exact Nat.ne_of_lt (blk_lt (g:=gb112) (o := .cells #[.int .i64 0, .slice none 0 0, .int .i64 0] 38 (0,0)) (by exact BK112.out)) : gb112 ≠ gb148));have n10_:=Aside0.mk ((by rw [hg];exact Nat.ne_of_gt (blk_lt (g:=gb112) (o := .cells #[.int .i64 0, .slice none 0 0, .int .i64 0] 38 (0,0)) (by exact BK112.out)) : gb148 ≠ gb112));have n11_:=Aside0.mk ((by rw [hg];exact Nat.ne_of_lt (blk_lt (g:=gb125) (o := .cells #[.int .i64 t116, .slice (some ad147) x126001_1.length co131, .int .i64 t122] 38 (0,0)) (by exact BK125.out)) : gb125 ≠ gb148));have n12_:=Aside0.mk ((by rw [hg];exact Nat.ne_of_gt (blk_lt (g:=gb125) (o := .cells #[.int .i64 t116, .slice (some ad147) x126001_1.length co131, .int .i64 t122] 38 (0,0)) (by exact BK125.out)) : gb148 ≠ gb125));have n13_:=Aside0.mk ((by rw [hg];exact Nat.ne_of_lt (IsS58.lt (show IsS58 w0 _ g s0_0 t145 t146 from by exact HI0.out)) : g ≠ gb148));have n14_:=Aside0.mk ((by rw [hg];exact Nat.ne_of_gt (IsS58.lt (show IsS58 w0 _ g s0_0 t145 t146 from by exact HI0.out)) : gb148 ≠ g));clear HO_126001;clear BK112;clear BK125;clear HI0;clear HK;clear HB;have HO_126001:=n0_;have BK112:=n1_;have BK125:=n2_;have HI0:=n3_;have HK:=n4_;have HB:=n5_;have BK148:=n6_;have GW148:=n7_;have GE148:=n8_;have NB112_148:=n9_;have NB148_112:=n10_;have NB125_148:=n11_;have NB148_125:=n12_;have NB0_148:=n13_;have NB148_0:=n14_;clear n0_ n1_ n2_ n3_ n4_ n5_ n6_ n7_ n8_ n9_ n10_ n11_ n12_ n13_ n14_;clear hb hbox hg;have hnb135:=NB148_112.out;have hnc135:=NB112_148.out;have hnb136:=NB148_125.out;have hnc136:=NB125_148.out;have hnb137:=NB148_0.out;have hnc137:=NB0_148.out;have hcz138_0 : w134.cell? ⟨gb148,0,none⟩ = some (.int .i64 0):=(blk_cell BK148.out 0).trans rfl;have hcz138_1 : w134.cell? ⟨gb148,1,none⟩ = some (.int .i64 0):=(blk_cell BK148.out 1).trans rfl;have hfz138_0:=blk_frozen BK148.out 0;have hfz138_1:=blk_frozen BK148.out 1) | ((with_reducible refine gate_callee (f:=33) rfl ?_);refine goesL_ (some 44) rfl rfl Try.func33 (by kernel_rfl) rfl #[.pointer (some ⟨g,0,none⟩), .int .i64 40] rfl (by (try simp only [List.map_toArray,List.map_cons,List.map_nil]);rfl) ?_;(with_reducible refine (spec_l1Cur_pick.calls g s0_0 t145 t146 40 t149 t150 t151 w0 _ ?side1 ?side2 A40.out).mono ?_);(case side1 => repeat ((with_reducible first | exact HI0.out | refine IsS58.far ?_ NB0_148.out _)));(case side2 => repeat ((with_reducible first | exact HB.out | refine below_set ?_ GE148.out)));rintro e w139 ⟨rfl,hi,hb,hk⟩;refine ⟨_,rfl, ?_⟩;have n0_:=Aside0.mk (Kd.R_mono (Kd.R_keep (IsS58.apart (show IsS58 w0 _ g s0_0 t145 t146 from by repeat ((with_reducible first | exact HI0.out | refine IsS58.far ?_ NB0_148.out _))) (by exact (Kd.R_mono (Kd.R_far (p:=⟨gb148,1,none⟩) (Kd.R_far (p:=⟨gb148,0,none⟩) (Kd.R_mono HO_126001.out (fun k_ hk => (⟨hk,hk.2⟩ : _ ∧ k_ ≠ gb148))) (fun _ hk => hk.2) (.int .i64 ((rd_T51 x126001_1 t144).f0))) (fun _ hk => hk.2) (.int .i64 ((rd_T51 x126001_1 t144).f1))) (fun _ h_ => h_.1))) (by decide)) hk (fun _ h => h.2)) (fun _ h => h.1));have n1_:=Aside0.mk (KeepBut.blk hk (g':=gb112) (o := .cells #[.int .i64 0, .slice none 0 0, .int .i64 0] 38 (0,0)) (by refine blk_far ?_ NB112_148.out _;refine blk_far ?_ NB112_148.out _;exact BK112.out) NB112_0.out (by simp));have n2_:=Aside0.mk (KeepBut.blk hk (g':=gb125) (o := .cells #[.int .i64 t116, .slice (some ad147) x126001_1.length co131, .int .i64 t122] 38 (0,0)) (by refine blk_far ?_ NB125_148.out _;refine blk_far ?_ NB125_148.out _;exact BK125.out) NB125_0.out (by simp));have n3_:=Aside0.mk (KeepBut.blk hk (g':=gb148) (o := .cells #[.int .i64 ((rd_T51 x126001_1 t144).f0), .int .i64 ((rd_T51 x126001_1 t144).f1)] 51 (0,0)) (by refine blk_put (cs:=#[.int .i64 ((rd_T51 x126001_1 t144).f0), .int .i64 0]) ?_ 1 _ rfl;refine blk_put (cs:=#[.int .i64 0, .int .i64 0]) ?_ 0 _ rfl;exact BK148.out) NB148_0.out (by simp));have n4_:=Aside0.mk (KeepBut.trans (by repeat ((with_reducible first | exact HK.out | refine keep_far ?_ GW148.out _))) hk (.inl rfl));have n5_:=Aside0.mk (hb);have n6_:=Aside0.mk (hi);clear HO_126001;clear BK112;clear BK125;clear BK148;clear HK;clear HB;clear HI0;have HO_126001:=n0_;have BK112:=n1_;have BK125:=n2_;have BK148:=n3_;have HK:=n4_;have HB:=n5_;have HI0:=n6_;clear n0_ n1_ n2_ n3_ n4_ n5_ n6_;(try clear hb);(try clear hk);(try clear hi)) | ((with_reducible refine gate_dst (N:=66) rfl ?_);refine Kd.R_lit (Kd.int .i64) _ 3 ?hg (N:=66) ?hd (xs:=([(-1),10001] : List Int)) (inner := [.int .i64 (-1), .int .i64 10001]) (ok:=fun _ => True) (okp:=fun _ => True) ?hr ?hp (fun _ hk => hk) trivial (Below.refl _ _) (Nat.le_refl _) (by simp) ?_;(case hd => rfl);(case hg => rfl);(case hr => (go_simp;done));(case hp => exact (Reps.one (show Kd.M (Kd.int .i64) _ _ _ (-1) [.int .i64 (-1)] from rfl) (Reps.one (show Kd.M (Kd.int .i64) _ _ _ 10001 [.int .i64 10001] from rfl) (Reps.none _ _))));intro v174 w140 ho141 hb hg_ hnew_;clear hg_ hnew_;(rw [← Ny173.out] at ho141);have n0_:=Aside0.mk (Kd.R_below (by exact HO_126001.out) hb);have n1_:=Aside0.mk (Kd.R_lower ho141 (keep_size (w:=w) (g:=g) (row:=none) (by exact HK.out)));have n2_:=Aside0.mk (blk_below (g:=gb112) (o := .cells #[.int .i64 0, .slice none 0 0, .int .i64 0] 38 (0,0)) (by exact BK112.out) hb);have n3_:=Aside0.mk (blk_below (g:=gb125) (o := .cells #[.int .i64 t116, .slice (some ad147) x126001_1.length co131, .int .i64 t122] 38 (0,0)) (by exact BK125.out) hb);have n4_:=Aside0.mk (IsS58.below (by exact HI0.out) hb);have n5_:=Aside0.mk (blk_below (g:=gb148) (o := .cells #[.int .i64 ((rd_T51 x126001_1 t144).f0), .int .i64 ((rd_T51 x126001_1 t144).f1)] 51 (0,0)) (by exact BK148.out) hb);have n6_:=Aside0.mk (KeepBut.trans (by exact HK.out) (KeepBut.of_below hb g none) (.inl rfl));have n7_:=Aside0.mk (below_step (by exact HB.out) hb);clear HO_126001;clear BK112;clear BK125;clear HI0;clear BK148;clear HK;clear HB;have HO_126001:=n0_;have HO175:=n1_;have BK112:=n2_;have BK125:=n3_;have HI0:=n4_;have BK148:=n5_;have HK:=n6_;have HB:=n7_;clear n0_ n1_ n2_ n3_ n4_ n5_ n6_ n7_;clear hb ho141;obtain ⟨Ao142,co142,eo142⟩ := Kd.R_slice HO175.out;subst eo142) | ((with_reducible refine gate_callee (f:=36) rfl ?_);refine goesL_ (some 67) rfl rfl Try.func36 (by kernel_rfl) rfl #[.pointer (some ⟨g,0,none⟩), .slice Ao142 y173.length co142] rfl (by (try simp only [List.map_toArray,List.map_cons,List.map_nil]);rfl) ?_;(with_reducible refine (spec_l1Cur_among.calls g s0_0 t150 t151 _ _ y173 t176 t177 t178 w0 _ ?side1 ?side2 ?side3 ?side4 ?side5 A126.out).mono ?_);(case side1 => exact HI0.out);(case side2 => exact HB.out);(case side3 => repeat (exact (Kd.R_reads' HO175.out).2.2));(case side4 => exact (Kd.R_reads' HO175.out).2.1);(case side5 => exact far_slice (IsS58.own_ne HI0.out HO175.out (by decide)));rintro e w143 ⟨rfl,hi,hb,hk⟩;refine ⟨_,rfl, ?_⟩;have n0_:=Aside0.mk (Kd.R_mono (Kd.R_keep (IsS58.apart (show IsS58 w0 _ g s0_0 t150 t151 from by exact HI0.out) (by exact HO_126001.out) (by decide)) hk (fun _ h => h.2)) (fun _ h => h.1));have n1_:=Aside0.mk (KeepBut.blk hk (g':=gb112) (o := .cells #[.int .i64 0, .slice none 0 0, .int .i64 0] 38 (0,0)) (by exact BK112.out) NB112_0.out (by simp));have n2_:=Aside0.mk (KeepBut.blk hk (g':=gb125) (o := .cells #[.int .i64 t116, .slice (some ad147) x126001_1.length co131, .int .i64 t122] 38 (0,0)) (by exact BK125.out) NB125_0.out (by simp));have n3_:=Aside0.mk (KeepBut.blk hk (g':=gb148) (o := .cells #[.int .i64 ((rd_T51 x126001_1 t144).f0), .int .i64 ((rd_T51 x126001_1 t144).f1)] 51 (0,0)) (by exact BK148.out) NB148_0.out (by simp));have n4_:=Aside0.mk (Kd.R_mono (Kd.R_keep (IsS58.apart (show IsS58 w0 _ g s0_0 t150 t151 from by exact HI0.out) (by exact HO175.out) (by decide)) hk (fun _ h => h.2)) (fun _ h => h.1));have n5_:=Aside0.mk (KeepBut.trans (by exact HK.out) hk (.inl rfl));have n6_:=Aside0.mk (hb);have n7_:=Aside0.mk (hi);clear HO_126001;clear BK112;clear BK125;clear BK148;clear HO175;clear HK;clear HB;clear HI0;have HO_126001:=n0_;have BK112:=n1_;have BK125:=n2_;have BK148:=n3_;have HO175:=n4_;have HK:=n5_;have HB:=n6_;have HI0:=n7_;clear n0_ n1_ n2_ n3_ n4_ n5_ n6_ n7_;(try clear hb);(try clear hk);(try clear hi);have hcz144_0 : w143.cell? ⟨gb148,0,none⟩ = some (.int .i64 ((rd_T51 x126001_1 t144).f0)):=(blk_cell BK148.out 0).trans rfl;have hcz144_1 : w143.cell? ⟨gb148,1,none⟩ = some (.int .i64 ((rd_T51 x126001_1 t144).f1)):=(blk_cell BK148.out 1).trans rfl;have hfz144_0:=blk_frozen BK148.out 0;have hfz144_1:=blk_frozen BK148.out 1) | ((with_reducible refine gate_store (t:=3) (p:=68) rfl ?_);refine store_event (t:=3) (p:=68) (v:=?vo_w145) (w1:=(w143.setCell ⟨gb148,1,none⟩ (.int .i64 t176))) ?hg ?ho ?hn ?hr ?_;(case ho => rfl);(case hg => rfl);(case hn => rfl);(case hr => (go_simp;done));intro w145 hw;have n0_ : Aside0 (Kd.R k51 51 w145 w.heap.size (fun k_ => k_ ≠ gb148) (.slice (some ad147) x126001_1.length co131) x126001_1):=⟨(by rw [hw];exact (by exact Kd.R_mono (Kd.R_far (p:=⟨gb148,1,none⟩) (Kd.R_mono HO_126001.out (fun k_ hk => (⟨hk,hk.2⟩ : _ ∧ k_ ≠ gb148))) (fun _ hk => hk.2) (.int .i64 t176)) (fun _ hk => hk.1.2)))⟩;have n1_ : Aside0 (Kd.R (Kd.int .i64) 3 w145 w.heap.size (fun _ => True) (.slice Ao142 y173.length co142) y173):=⟨(by rw [hw];exact (by exact Kd.R_mono (Kd.R_far (p:=⟨gb148,1,none⟩) (Kd.R_types HO175.out BK148.out (by decide)) (fun _ hk => hk.2) (.int .i64 t176)) (fun _ hk => trivial)))⟩;have n2_ : Aside0 (w145.heap[gb112]? = some (.cells #[.int .i64 0, .slice none 0 0, .int .i64 0] 38 (0,0))):=⟨(by rw [hw];exact (by refine blk_far ?_ NB112_148.out _;exact BK112.out))⟩;have n3_ : Aside0 (w145.heap[gb125]? = some (.cells #[.int .i64 t116, .slice (some ad147) x126001_1.length co131, .int .i64 t122] 38 (0,0))):=⟨(by rw [hw];exact (by refine blk_far ?_ NB125_148.out _;exact BK125.out))⟩;have n4_ : Aside0 (w145.heap[gb148]? = some (.cells #[.int .i64 ((rd_T51 x126001_1 t144).f0), .int .i64 t176] 51 (0,0))):=⟨(by rw [hw];exact (by refine blk_put (cs:=#[.int .i64 ((rd_T51 x126001_1 t144).f0), .int .i64 ((rd_T51 x126001_1 t144).f1)]) ?_ 1 _ rfl;exact BK148.out))⟩;have n5_ : Aside0 (IsS58 w0 w145 g s0_0 t177 t178):=⟨(by rw [hw];exact (by repeat ((with_reducible first | exact HI0.out | refine IsS58.far ?_ NB0_148.out _))))⟩;have n6_ : Aside0 (KeepBut w w145 g none):=⟨(by rw [hw];exact (by repeat ((with_reducible first | exact HK.out | refine keep_far ?_ GW148.out _))))⟩;have n7_ : Aside0 (Below w0.heap.size w0 w145):=⟨(by rw [hw];exact (by repeat ((with_reducible first | exact HB.out | refine below_set ?_ GE148.out))))⟩;clear hw;clear HO_126001;clear HO175;clear BK112;clear BK125;clear BK148;clear HI0;clear HK;clear HB;have HO_126001:=n0_;have HO175:=n1_;have BK112:=n2_;have BK125:=n3_;have BK148:=n4_;have HI0:=n5_;have HK:=n6_;have HB:=n7_;clear n0_ n1_ n2_ n3_ n4_ n5_ n6_ n7_;have hcz146_0 : w145.cell? ⟨gb125,0,none⟩ = some (.int .i64 t116):=(blk_cell BK125.out 0).trans rfl;have hcz146_1 : w145.cell? ⟨gb125,1,none⟩ = some (.slice (some ad147) x126001_1.length co131):=(blk_cell BK125.out 1).trans rfl;have hcz146_2 : w145.cell? ⟨gb125,2,none⟩ = some (.int .i64 t122):=(blk_cell BK125.out 2).trans rfl;have hfz146_0:=blk_frozen BK125.out 0;have hfz146_1:=blk_frozen BK125.out 1;have hfz146_2:=blk_frozen BK125.out 2;have hcz147_0 : w145.cell? ⟨gb148,0,none⟩ = some (.int .i64 ((rd_T51 x126001_1 t144).f0)):=(blk_cell BK148.out 0).trans rfl;have hcz147_1 : w145.cell? ⟨gb148,1,none⟩ = some (.int .i64 t176):=(blk_cell BK148.out 1).trans rfl;have hfz147_0:=blk_frozen BK148.out 0;have hfz147_1:=blk_frozen BK148.out 1;have p127 : 0 ≤ (t144 : Int):=of_decide_eq_true (by (with_reducible assumption));have q127 : (t144 : Int) < ((x126001_1.length : Int) : Int):=of_decide_eq_true (by (with_reducible assumption));obtain ⟨go127,co127,eo127,gb127,gl127,cl127,HG127⟩ := Kd.R_form HO_126001.out (by omega);(cases eo127);have GB127:=Aside0.mk gb127;have GG127:=Aside0.mk HG127;clear gb127 gl127 HG127;(simp only [add_plain] at hx147_0);(simp only [add_plain] at hx147_1);obtain ⟨ce127,hcl127,hM127,hcc127,hfr127⟩ := Kd.R_elem HO_126001.out z51 (t144 : Int) p127 q127;obtain rfl:=k51_openM hM127;have hx127_0 : w145.cell? ⟨go127,(t144 : Int).toNat * 2,none⟩ = some (.int .i64 ((rd_T51 x126001_1 t144).f0)):=hcc127 0 _ rfl;have hx127_1 : w145.cell? ⟨go127,(t144 : Int).toNat * 2 + 1,none⟩ = some (.int .i64 ((rd_T51 x126001_1 t144).f1)):=hcc127 1 _ rfl;have hf127_0 : w145.frozen? ⟨go127,(t144 : Int).toNat * 2,none⟩ = false:=hfr127 0;have hf127_1 : w145.frozen? ⟨go127,(t144 : Int).toNat * 2 + 1,none⟩ = false:=hfr127 1;clear hcl127 hcc127 hfr127;(try clear hM127);replace p127:=eq_true p127;replace q127:=eq_true q127;have HX148:=Aside0.mk (show Kd.R k51 51 w145 w.heap.size (fun k_ => k_ ≠ gb148) (.slice (some ⟨go127,0,none⟩) x126001_1.length co131) x126001_1 from (by exact HO_126001.out));obtain ⟨ce148,hcl148,hM148,hcc148,hfr148⟩ := Kd.R_elem HX148.out z51 (t144 : Int) (of_decide_eq_true (by (with_reducible assumption))) (by have h_ : (t144 : Int) < ((x126001_1.length : Int) : Int):=of_decide_eq_true (by (with_reducible assumption));exact h_);obtain rfl:=k51_openM hM148;have HP148:=Kd.R_seg HX148.out (t144 : Int) (of_decide_eq_true (by (with_reducible assumption))) (by have h_ : (t144 : Int) < ((x126001_1.length : Int) : Int):=of_decide_eq_true (by (with_reducible assumption));exact h_) (seg := [.int .i64 ((rd_T51 x126001_1 t144).f0), .int .i64 t176]) (j:=0) hcl148 hcc148 (show 2 ≤ 2 from by decide) (x':=(⟨(rd_T51 x126001_1 t144).f0,t176⟩ : S51)) (k51_mkM _ _ _ (⟨(rd_T51 x126001_1 t144).f0,t176⟩ : S51) ) (fun _ hk => hk);have hx148_0:=hcc148 0 _ rfl;(try simp only [show (k51).sz = 2 from rfl,Nat.mul_one,Nat.add_zero] at hx148_0);have hf148_0:=hfr148 0;(try simp only [show (k51).sz = 2 from rfl,Nat.mul_one,Nat.add_zero] at hf148_0);have hx148_1:=hcc148 1 _ rfl;(try simp only [show (k51).sz = 2 from rfl,Nat.mul_one,Nat.add_zero] at hx148_1);have hf148_1:=hfr148 1;(try simp only [show (k51).sz = 2 from rfl,Nat.mul_one,Nat.add_zero] at hf148_1);clear hcl148 hcc148 hfr148;(try clear hM148)) | ((with_reducible refine gate_store (t:=51) (p:=88) rfl ?_);refine store_event (t:=51) (p:=88) (v:=?vo_w149) (w1:=((w145.setCell ⟨go127,(t144 : Int).toNat * 2,none⟩ (.int .i64 ((rd_T51 x126001_1 t144).f0))).setCell ⟨go127,(t144 : Int).toNat * 2 + 1,none⟩ (.int .i64 t176))) ?hg ?ho ?hn ?hr ?_;(case ho => rfl);(case hg => rfl);(case hn => rfl);(case hr => (go_simp;done));intro w149 hw;have hg : w145.grownBy w149 (some go127):=(by rw [hw];exact HP148.2);have hp_ : Kd.R k51 51 w149 w.heap.size (fun k_ => k_ ≠ gb148) (.slice (some ⟨go127,0,none⟩) x126001_1.length co131) y179:=(by rw [hw,Ny179.out];exact HP148.1);clear HP148;have n0_:=Aside0.mk (hp_);have n1_:=Aside0.mk (blk_grown (g:=gb112) (o := .cells #[.int .i64 0, .slice none 0 0, .int .i64 0] 38 (0,0)) (by exact BK112.out) hg (Kd.R_ne HO_126001.out BK112.out (by decide)));have n2_:=Aside0.mk (blk_grown (g:=gb125) (o := .cells #[.int .i64 t116, .slice (some ⟨go127,0,none⟩) x126001_1.length co131, .int .i64 t122] 38 (0,0)) (by exact BK125.out) hg (Kd.R_ne HO_126001.out BK125.out (by decide)));have n3_:=Aside0.mk (IsS58.grown (by exact HI0.out) hg (IsS58.own_ne HI0.out HO_126001.out (by decide)));have n4_:=Aside0.mk (blk_grown (g:=gb148) (o := .cells #[.int .i64 ((rd_T51 x126001_1 t144).f0), .int .i64 t176] 51 (0,0)) (by exact BK148.out) hg (Kd.R_away HO_126001.out (fun _ hk => hk)));have n5_:=Aside0.mk (Kd.R_over' (v:=(.slice (some ⟨go127,0,none⟩) x126001_1.length co131)) (by exact HO175.out) (Kd.R_typed HO_126001.out) (by decide) hg);have n6_:=Aside0.mk ((by rw [hw];exact below_set (below_set (HB.out) (Nat.le_trans HL.out GB127.out)) (Nat.le_trans HL.out GB127.out) : Below w0.heap.size w0 w149));have n7_:=Aside0.mk (KeepBut.trans (by exact HK.out) (KeepBut.of_grown hg g) (Kd.R_base2 HO_126001.out));clear HO_126001;clear BK112;clear BK125;clear HI0;clear BK148;clear HO175;clear HB;clear HK;have HO_126001:=n0_;have BK112:=n1_;have BK125:=n2_;have HI0:=n3_;have BK148:=n4_;have HO175:=n5_;have HB:=n6_;have HK:=n7_;clear n0_ n1_ n2_ n3_ n4_ n5_ n6_ n7_;clear hg hw hp_;have hcz150_0 : w149.cell? ⟨gb125,0,none⟩ = some (.int .i64 t116):=(blk_cell BK125.out 0).trans rfl;have hcz150_1 : w149.cell? ⟨gb125,1,none⟩ = some (.slice (some ⟨go127,0,none⟩) x126001_1.length co131):=(blk_cell BK125.out 1).trans rfl;have hcz150_2 : w149.cell? ⟨gb125,2,none⟩ = some (.int .i64 t122):=(blk_cell BK125.out 2).trans rfl;have hfz150_0:=blk_frozen BK125.out 0;have hfz150_1:=blk_frozen BK125.out 1;have hfz150_2:=blk_frozen BK125.out 2;have hnb151:=NB112_0.out;have hnc151:=NB0_112.out;have hcz152_0 : w149.cell? ⟨gb112,0,none⟩ = some (.int .i64 0):=(blk_cell BK112.out 0).trans rfl;have hcz152_1 : w149.cell? ⟨gb112,1,none⟩ = some (.slice none 0 0):=(blk_cell BK112.out 1).trans rfl;have hcz152_2 : w149.cell? ⟨gb112,2,none⟩ = some (.int .i64 0):=(blk_cell BK112.out 2).trans rfl;have hfz152_0:=blk_frozen BK112.out 0;have hfz152_1:=blk_frozen BK112.out 1;have hfz152_2:=blk_frozen BK112.out 2))
          refine bodyPost_ret (results_cell_row rfl _ _ gb112 38 #[.int .i64 t116, .slice (some ⟨go127,0,none⟩) x126001_1.length co131, .int .i64 t122] (0,0) _ rfl (by refine blk_put (cs:=#[.int .i64 t116, .slice (some ⟨go127,0,none⟩) x126001_1.length co131, .int .i64 0]) ?_ 2 _ rfl;refine blk_put (cs:=#[.int .i64 t116, .slice none 0 0, .int .i64 0]) ?_ 1 _ rfl;refine blk_put (cs:=#[.int .i64 0, .slice none 0 0, .int .i64 0]) ?_ 0 _ rfl;exact BK112.out) Try.underlying38 rfl (by kernel_rfl)) rfl ?_
          exact ⟨_,by rfl,by exact Kd.R_mono (Kd.R_far (p:=⟨gb112,2,none⟩) (Kd.R_far (p:=⟨gb112,1,none⟩) (Kd.R_far (p:=⟨gb112,0,none⟩) (Kd.R_types HO_126001.out BK112.out (by decide)) (fun _ hk => hk.2) (.int .i64 t116)) (fun _ hk => hk.2) (.slice (some ⟨go127,0,none⟩) x126001_1.length co131)) (fun _ hk => hk.2) (.int .i64 t122)) (fun _ hk => trivial),by repeat ((with_reducible first | exact HI0.out | refine IsS58.far ?_ NB0_112.out _)),by repeat ((with_reducible first | exact HB.out | refine below_set ?_ GE112.out)),by repeat ((with_reducible first | exact HK.out | refine keep_far ?_ GW112.out _))⟩
         ·rw [if_neg c125] at H
          have c125b0 : (t149 == 3) = false:=beq_eq_false_iff_ne.mpr c125
          have c125b1 : (t149 != 3) = true:=bne_iff_ne.mpr c125
          by_cases c153 : t149 = 4
          ·rw [if_pos c153] at H
           have c153b0 : (t149 == 4) = true:=beq_iff_eq.mpr c153
           have c153b1 : (t149 != 4) = false:=bne_eq_false_iff_eq.mpr c153
           clear c153
           have H':=Aside0.mk H
           clear H
           have hnb154:=NB125_112.out
           have hnc154:=NB112_125.out
           have hnb155:=NB125_0.out
           have hnc155:=NB0_125.out
           have hcz156_0 : wr.cell? ⟨gb125,0,none⟩ = some (.int .i64 t116):=(blk_cell BK125.out 0).trans rfl
           have hcz156_1 : wr.cell? ⟨gb125,1,none⟩ = some (u126001):=(blk_cell BK125.out 1).trans rfl
           have hcz156_2 : wr.cell? ⟨gb125,2,none⟩ = some (.int .i64 t122):=(blk_cell BK125.out 2).trans rfl
           have hfz156_0:=blk_frozen BK125.out 0
           have hfz156_1:=blk_frozen BK125.out 1
           have hfz156_2:=blk_frozen BK125.out 2
           obtain ⟨Ao157,co157,eo157⟩ := Kd.R_slice HO_126001.out
           subst eo157
           go_wp2_with (first | ((with_reducible refine gate_callee (f:=33) rfl ?_);refine goesL_ (some 37) rfl rfl Try.func33 (by kernel_rfl) rfl #[.pointer (some ⟨g,0,none⟩), .int .i64 (x126001_1.length : Int)] rfl (by (try simp only [List.map_toArray,List.map_cons,List.map_nil]);rfl) ?_;(with_reducible refine (spec_l1Cur_pick.calls g s0_0 x1001_1 x1002_1 (x126001_1.length : Int) t144 t145 t146 w0 _ ?side1 ?side2 A37.out).mono ?_);(case side1 => exact HI0.out);(case side2 => exact HB.out);rintro e w158 ⟨rfl,hi,hb,hk⟩;refine ⟨_,rfl, ?_⟩;have n0_:=Aside0.mk (Kd.R_mono (Kd.R_keep (IsS58.apart (show IsS58 w0 _ g s0_0 x1001_1 x1002_1 from by exact HI0.out) (by exact HO_126001.out) (by decide)) hk (fun _ h => h.2)) (fun _ h => h.1));have n1_:=Aside0.mk (KeepBut.blk hk (g':=gb112) (o := .cells #[.int .i64 0, .slice none 0 0, .int .i64 0] 38 (0,0)) (by exact BK112.out) NB112_0.out (by simp));have n2_:=Aside0.mk (KeepBut.blk hk (g':=gb125) (o := .cells #[.int .i64 t116, .slice Ao157 x126001_1.length co157, .int .i64 t122] 38 (0,0)) (by exact BK125.out) NB125_0.out (by simp));have n3_:=Aside0.mk (KeepBut.trans (by exact HK.out) hk (.inl rfl));have n4_:=Aside0.mk (hb);have n5_:=Aside0.mk (hi);clear HO_126001;clear BK112;clear BK125;clear HK;clear HB;clear HI0;have HO_126001:=n0_;have BK112:=n1_;have BK125:=n2_;have HK:=n3_;have HB:=n4_;have HI0:=n5_;clear n0_ n1_ n2_ n3_ n4_ n5_;(try clear hb);(try clear hk);(try clear hi);have hcz159_0 : w158.cell? ⟨gb125,0,none⟩ = some (.int .i64 t116):=(blk_cell BK125.out 0).trans rfl;have hcz159_1 : w158.cell? ⟨gb125,1,none⟩ = some (.slice Ao157 x126001_1.length co157):=(blk_cell BK125.out 1).trans rfl;have hcz159_2 : w158.cell? ⟨gb125,2,none⟩ = some (.int .i64 t122):=(blk_cell BK125.out 2).trans rfl;have hfz159_0:=blk_frozen BK125.out 0;have hfz159_1:=blk_frozen BK125.out 1;have hfz159_2:=blk_frozen BK125.out 2;have p147 : 0 ≤ (t144 : Int):=of_decide_eq_true (by (with_reducible assumption));have q147 : t144 < (x126001_1.length : Int):=of_decide_eq_true (by (with_reducible assumption));obtain ⟨ad147,e147,hx147_0,hx147_1⟩ := at_T51 (Kd.R_reads' HO_126001.out).2.2 t144 p147 q147;cases e147;replace p147:=eq_true p147;replace q147:=eq_true q147) | ((with_reducible refine gate_dst (N:=6) rfl ?_);refine box_event ?hg (N:=6) ?hd (cs:=#[.int .i64 0, .int .i64 0]) (t:=51) ?hr ?_;(case hd => rfl);(case hg => rfl);(case hr => (go_simp;done));intro gb148 hg w160 hbox hb;have n0_:=Aside0.mk (Kd.R_below (Kd.R_elderB (by exact HO_126001.out) gb148 (Nat.le_of_eq hg.symm)) hb);have n1_:=Aside0.mk (blk_below (g:=gb112) (o := .cells #[.int .i64 0, .slice none 0 0, .int .i64 0] 38 (0,0)) (by exact BK112.out) hb);have n2_:=Aside0.mk (blk_below (g:=gb125) (o := .cells #[.int .i64 t116, .slice (some ad147) x126001_1.length co157, .int .i64 t122] 38 (0,0)) (by exact BK125.out) hb);have n3_:=Aside0.mk (IsS58.below (by exact HI0.out) hb);have n4_:=Aside0.mk (KeepBut.trans (by exact HK.out) (KeepBut.of_below hb g none) (.inl rfl));have n5_:=Aside0.mk (below_step (by exact HB.out) hb);have n6_:=Aside0.mk (hbox);have n7_:=Aside0.mk ((by rw [hg];exact (keep_size (w:=w) (g:=g) (row:=none) (by exact HK.out)) : w.heap.size ≤ gb148));have n8_:=Aside0.mk ((Nat.le_trans HW0.out (by rw [hg];exact (keep_size (w:=w) (g:=g) (row:=none) (by exact HK.out)) : w.heap.size ≤ gb148) : w0.heap.size ≤ gb148));have n9_:=Aside0.mk ((by rw [hg];exact Nat.ne_of_lt (blk_lt (g:=gb112) (o := .cells #[.int .i64 0, .slice none 0 0, .int .i64 0] 38 (0,0)) (by exact BK112.out)) : gb112 ≠ gb148));have n10_:=Aside0.mk ((by rw [hg];exact Nat.ne_of_gt (blk_lt (g:=gb112) (o := .cells #[.int .i64 0, .slice none 0 0, .int .i64 0] 38 (0,0)) (by exact BK112.out)) : gb148 ≠ gb112));have n11_:=Aside0.mk ((by rw [hg];exact Nat.ne_of_lt (blk_lt (g:=gb125) (o := .cells #[.int .i64 t116, .slice (some ad147) x126001_1.length co157, .int .i64 t122] 38 (0,0)) (by exact BK125.out)) : gb125 ≠ gb148));have n12_:=Aside0.mk ((by rw [hg];exact Nat.ne_of_gt (blk_lt (g:=gb125) (o := .cells #[.int .i64 t116, .slice (some ad147) x126001_1.length co157, .int .i64 t122] 38 (0,0)) (by exact BK125.out)) : gb148 ≠ gb125));have n13_:=Aside0.mk ((by rw [hg];exact Nat.ne_of_lt (IsS58.lt (show IsS58 w0 _ g s0_0 t145 t146 from by exact HI0.out)) : g ≠ gb148));have n14_:=Aside0.mk ((by rw [hg];exact Nat.ne_of_gt (IsS58.lt (show IsS58 w0 _ g s0_0 t145 t146 from by exact HI0.out)) : gb148 ≠ g));clear HO_126001;clear BK112;clear BK125;clear HI0;clear HK;clear HB;have HO_126001:=n0_;have BK112:=n1_;have BK125:=n2_;have HI0:=n3_;have HK:=n4_;have HB:=n5_;have BK148:=n6_;have GW148:=n7_;have GE148:=n8_;have NB112_148:=n9_;have NB148_112:=n10_;have NB125_148:=n11_;have NB148_125:=n12_;have NB0_148:=n13_;have NB148_0:=n14_;clear n0_ n1_ n2_ n3_ n4_ n5_ n6_ n7_ n8_ n9_ n10_ n11_ n12_ n13_ n14_;clear hb hbox hg;have hnb161:=NB148_112.out;have hnc161:=NB112_148.out;have hnb162:=NB148_125.out;have hnc162:=NB125_148.out;have hnb163:=NB148_0.out;have hnc163:=NB0_148.out;have hcz164_0 : w160.cell? ⟨gb148,0,none⟩ = some (.int .i64 0):=(blk_cell BK148.out 0).trans rfl;have hcz164_1 : w160.cell? ⟨gb148,1,none⟩ = some (.int .i64 0):=(blk_cell BK148.out 1).trans rfl;have hfz164_0:=blk_frozen BK148.out 0;have hfz164_1:=blk_frozen BK148.out 1) | ((with_reducible refine gate_callee (f:=33) rfl ?_);refine goesL_ (some 44) rfl rfl Try.func33 (by kernel_rfl) rfl #[.pointer (some ⟨g,0,none⟩), .int .i64 40] rfl (by (try simp only [List.map_toArray,List.map_cons,List.map_nil]);rfl) ?_;(with_reducible refine (spec_l1Cur_pick.calls g s0_0 t145 t146 40 t149 t150 t151 w0 _ ?side1 ?side2 A40.out).mono ?_);(case side1 => repeat ((with_reducible first | exact HI0.out | refine IsS58.far ?_ NB0_148.out _)));(case side2 => repeat ((with_reducible first | exact HB.out | refine below_set ?_ GE148.out)));rintro e w165 ⟨rfl,hi,hb,hk⟩;refine ⟨_,rfl, ?_⟩;have n0_:=Aside0.mk (Kd.R_mono (Kd.R_keep (IsS58.apart (show IsS58 w0 _ g s0_0 t145 t146 from by repeat ((with_reducible first | exact HI0.out | refine IsS58.far ?_ NB0_148.out _))) (by exact (Kd.R_mono (Kd.R_far (p:=⟨gb148,1,none⟩) (Kd.R_far (p:=⟨gb148,0,none⟩) (Kd.R_mono HO_126001.out (fun k_ hk => (⟨hk,hk.2⟩ : _ ∧ k_ ≠ gb148))) (fun _ hk => hk.2) (.int .i64 ((rd_T51 x126001_1 t144).f0))) (fun _ hk => hk.2) (.int .i64 ((rd_T51 x126001_1 t144).f1))) (fun _ h_ => h_.1))) (by decide)) hk (fun _ h => h.2)) (fun _ h => h.1));have n1_:=Aside0.mk (KeepBut.blk hk (g':=gb112) (o := .cells #[.int .i64 0, .slice none 0 0, .int .i64 0] 38 (0,0)) (by refine blk_far ?_ NB112_148.out _;refine blk_far ?_ NB112_148.out _;exact BK112.out) NB112_0.out (by simp));have n2_:=Aside0.mk (KeepBut.blk hk (g':=gb125) (o := .cells #[.int .i64 t116, .slice (some ad147) x126001_1.length co157, .int .i64 t122] 38 (0,0)) (by refine blk_far ?_ NB125_148.out _;refine blk_far ?_ NB125_148.out _;exact BK125.out) NB125_0.out (by simp));have n3_:=Aside0.mk (KeepBut.blk hk (g':=gb148) (o := .cells #[.int .i64 ((rd_T51 x126001_1 t144).f0), .int .i64 ((rd_T51 x126001_1 t144).f1)] 51 (0,0)) (by refine blk_put (cs:=#[.int .i64 ((rd_T51 x126001_1 t144).f0), .int .i64 0]) ?_ 1 _ rfl;refine blk_put (cs:=#[.int .i64 0, .int .i64 0]) ?_ 0 _ rfl;exact BK148.out) NB148_0.out (by simp));have n4_:=Aside0.mk (KeepBut.trans (by repeat ((with_reducible first | exact HK.out | refine keep_far ?_ GW148.out _))) hk (.inl rfl));have n5_:=Aside0.mk (hb);have n6_:=Aside0.mk (hi);clear HO_126001;clear BK112;clear BK125;clear BK148;clear HK;clear HB;clear HI0;have HO_126001:=n0_;have BK112:=n1_;have BK125:=n2_;have BK148:=n3_;have HK:=n4_;have HB:=n5_;have HI0:=n6_;clear n0_ n1_ n2_ n3_ n4_ n5_ n6_;(try clear hb);(try clear hk);(try clear hi)))
           (skip)
           go_loopg [] k1 (fun kq w' => ∃ (x1001_2 : Int) (x1002_2 : Int) (x126001_2 : List (S51)) (u126001 : Value),Aside0 (spec_l1Cur_charge.l1 kq t144 s0_0 x1001_2 x1002_2 t116 x126001_2 t122 ((rd_T51 x126001_1 t144).f0) ((rd_T51 x126001_1 t144).f1) = some (r1,r2,r3,r4,r5)) ∧ Aside0 (kq ≤ k1) ∧ Aside0 (Kd.R k51 51 w' w.heap.size (fun k_ => k_ ≠ gb148) u126001 x126001_2) ∧ Aside0 (w'.heap[gb112]? = some (.cells #[.int .i64 0,(.slice none 0 0), .int .i64 0] 38 (0,0))) ∧ Aside0 (w'.heap[gb125]? = some (.cells #[.int .i64 t116,u126001, .int .i64 t122] 38 (0,0))) ∧ Aside0 (w'.heap[gb148]? = some (.cells #[.int .i64 ((rd_T51 x126001_1 t144).f0), .int .i64 ((rd_T51 x126001_1 t144).f1)] 51 (0,0))) ∧ Aside0 (IsS58 w0 w' g s0_0 x1001_2 x1002_2) ∧ Aside0 (KeepBut w w' g none) ∧ Aside0 (Below w0.heap.size w0 w'))
           case atStart => exact ⟨(t150),(t151),(x126001_1),(.slice (some ad147) x126001_1.length co157),H',⟨Nat.le_refl _⟩,⟨by exact Kd.R_mono HO_126001.out (fun _ hk => hk.2)⟩,⟨by exact BK112.out⟩,⟨by exact BK125.out⟩,⟨by exact BK148.out⟩,⟨by exact HI0.out⟩,⟨by exact HK.out⟩,⟨by exact HB.out⟩⟩
           case round =>
            clear H'
            try clear c1
            try clear p1
            try clear q1
            try clear hx1
            try clear hf1
            try clear c2
            try clear p2
            try clear c3
            try clear c4
            try clear p4
            try clear q4
            try clear hx4
            try clear hf4
            try clear c5
            try clear c6
            try clear p6
            try clear hx6
            try clear hf6
            try clear c7
            try clear p7
            try clear q7
            try clear hx7
            try clear hf7
            try clear c8
            try clear c9
            try clear p9
            try clear q9
            try clear hx9
            try clear hf9
            try clear c10
            try clear c12
            try clear p12
            try clear q12
            try clear hx12
            try clear hf12
            try clear c13
            try clear c14
            try clear p14
            try clear q14
            try clear hx14
            try clear hf14
            try clear c15
            try clear c16
            try clear c19
            try clear c19b0
            try clear c22
            try clear c33
            try clear c36
            try clear c38
            try clear c38b0
            try clear c39
            try clear c39b0
            try clear c41
            try clear c41b0
            try clear c41b1
            try clear c43
            try clear p43
            try clear q43
            try clear hx43
            try clear hf43
            try clear c44
            try clear c45
            try clear c51
            try clear c52
            try clear c53
            try clear c64
            try clear p64
            try clear hx64
            try clear hf64
            try clear c67
            try clear c69
            try clear c69b0
            try clear c69b1
            try clear c71
            try clear p71
            try clear q71
            try clear hx71
            try clear hf71
            try clear c72
            try clear c73
            try clear c79
            try clear c80
            try clear c81
            try clear c92
            try clear hx92
            try clear hf92
            try clear c95
            try clear c97
            try clear c97b0
            try clear c97b1
            try clear c99
            try clear p99
            try clear q99
            try clear hx99
            try clear hf99
            try clear c100
            try clear c101
            try clear c107
            try clear c108
            try clear c109
            try clear c120
            try clear hx120
            try clear hf120
            try clear c123
            try clear c125
            try clear c125b0
            try clear c125b1
            try clear c127
            try clear p127
            try clear q127
            try clear hx127
            try clear hf127
            try clear c128
            try clear c129
            try clear c135
            try clear c136
            try clear c137
            try clear p147
            try clear q147
            try clear hx147
            try clear c148
            try clear hx148
            try clear hf148
            try clear c151
            try clear c153
            try clear c153b0
            try clear c153b1
            try clear c154
            try clear c155
            try clear c161
            try clear c162
            try clear c163
            try clear hcz102_0
            try clear hcz102_1
            try clear hcz102_2
            try clear hcz105_0
            try clear hcz105_1
            try clear hcz105_2
            try clear hcz110_0
            try clear hcz110_1
            try clear hcz116_0
            try clear hcz116_1
            try clear hcz118_0
            try clear hcz118_1
            try clear hcz118_2
            try clear hcz119_0
            try clear hcz119_1
            try clear hcz122_0
            try clear hcz122_1
            try clear hcz122_2
            try clear hcz124_0
            try clear hcz124_1
            try clear hcz124_2
            try clear hcz130_0
            try clear hcz130_1
            try clear hcz130_2
            try clear hcz133_0
            try clear hcz133_1
            try clear hcz133_2
            try clear hcz138_0
            try clear hcz138_1
            try clear hcz144_0
            try clear hcz144_1
            try clear hcz146_0
            try clear hcz146_1
            try clear hcz146_2
            try clear hcz147_0
            try clear hcz147_1
            try clear hcz150_0
            try clear hcz150_1
            try clear hcz150_2
            try clear hcz152_0
            try clear hcz152_1
            try clear hcz152_2
            try clear hcz156_0
            try clear hcz156_1
            try clear hcz156_2
            try clear hcz159_0
            try clear hcz159_1
            try clear hcz159_2
            try clear hcz164_0
            try clear hcz164_1
            try clear hcz46_0
            try clear hcz46_1
            try clear hcz46_2
            try clear hcz49_0
            try clear hcz49_1
            try clear hcz49_2
            try clear hcz54_0
            try clear hcz54_1
            try clear hcz60_0
            try clear hcz60_1
            try clear hcz60_2
            try clear hcz62_0
            try clear hcz62_1
            try clear hcz62_2
            try clear hcz63_0
            try clear hcz63_1
            try clear hcz66_0
            try clear hcz66_1
            try clear hcz66_2
            try clear hcz68_0
            try clear hcz68_1
            try clear hcz68_2
            try clear hcz74_0
            try clear hcz74_1
            try clear hcz74_2
            try clear hcz77_0
            try clear hcz77_1
            try clear hcz77_2
            try clear hcz82_0
            try clear hcz82_1
            try clear hcz88_0
            try clear hcz88_1
            try clear hcz88_2
            try clear hcz90_0
            try clear hcz90_1
            try clear hcz90_2
            try clear hcz91_0
            try clear hcz91_1
            try clear hcz94_0
            try clear hcz94_1
            try clear hcz94_2
            try clear hcz96_0
            try clear hcz96_1
            try clear hcz96_2
            try clear hfz102_0
            try clear hfz102_1
            try clear hfz102_2
            try clear hfz105_0
            try clear hfz105_1
            try clear hfz105_2
            try clear hfz110_0
            try clear hfz110_1
            try clear hfz116_0
            try clear hfz116_1
            try clear hfz118_0
            try clear hfz118_1
            try clear hfz118_2
            try clear hfz119_0
            try clear hfz119_1
            try clear hfz122_0
            try clear hfz122_1
            try clear hfz122_2
            try clear hfz124_0
            try clear hfz124_1
            try clear hfz124_2
            try clear hfz130_0
            try clear hfz130_1
            try clear hfz130_2
            try clear hfz133_0
            try clear hfz133_1
            try clear hfz133_2
            try clear hfz138_0
            try clear hfz138_1
            try clear hfz144_0
            try clear hfz144_1
            try clear hfz146_0
            try clear hfz146_1
            try clear hfz146_2
            try clear hfz147_0
            try clear hfz147_1
            try clear hfz150_0
            try clear hfz150_1
            try clear hfz150_2
            try clear hfz152_0
            try clear hfz152_1
            try clear hfz152_2
            try clear hfz156_0
            try clear hfz156_1
            try clear hfz156_2
            try clear hfz159_0
            try clear hfz159_1
            try clear hfz159_2
            try clear hfz164_0
            try clear hfz164_1
            try clear hfz46_0
            try clear hfz46_1
            try clear hfz46_2
            try clear hfz49_0
            try clear hfz49_1
            try clear hfz49_2
            try clear hfz54_0
            try clear hfz54_1
            try clear hfz60_0
            try clear hfz60_1
            try clear hfz60_2
            try clear hfz62_0
            try clear hfz62_1
            try clear hfz62_2
            try clear hfz63_0
            try clear hfz63_1
            try clear hfz66_0
            try clear hfz66_1
            try clear hfz66_2
            try clear hfz68_0
            try clear hfz68_1
            try clear hfz68_2
            try clear hfz74_0
            try clear hfz74_1
            try clear hfz74_2
            try clear hfz77_0
            try clear hfz77_1
            try clear hfz77_2
            try clear hfz82_0
            try clear hfz82_1
            try clear hfz88_0
            try clear hfz88_1
            try clear hfz88_2
            try clear hfz90_0
            try clear hfz90_1
            try clear hfz90_2
            try clear hfz91_0
            try clear hfz91_1
            try clear hfz94_0
            try clear hfz94_1
            try clear hfz94_2
            try clear hfz96_0
            try clear hfz96_1
            try clear hfz96_2
            try clear hx120_0
            try clear hx120_1
            try clear hx127_0
            try clear hx127_1
            try clear hx147_0
            try clear hx147_1
            try clear hx148_0
            try clear hx148_1
            try clear hx43_0
            try clear hx43_1
            try clear hx64_0
            try clear hx64_1
            try clear hx71_0
            try clear hx71_1
            try clear hx92_0
            try clear hx92_1
            try clear hx99_0
            try clear hx99_1
            try clear p127
            try clear p147
            try clear p43
            try clear p71
            try clear p99
            try clear q127
            try clear q147
            try clear q43
            try clear q71
            try clear q99
            obtain ⟨x1001_2,x1002_2,x126001_2,u126001,HA,HK2,HO_126001,BK112,BK125,BK148,HI0,HK,HB⟩ := hrel
            cases gk with
            | zero => exact absurd HA.out (by simp [spec_l1Cur_charge.l1])
            | succ k2 =>
             have H:=HA.out
             clear HA
             simp only [spec_l1Cur_charge.l1] at H
             replace H:=Option.bind_eq_some_iff.mp H
             obtain ⟨⟨t180,t181,t182⟩,A1660,H⟩ := H
             replace H : (if (x126001_2.length : Int) < (wrap64 (6 + t180)) then (if x126001_2.length < 8796093022208 then (spec_l1Cur_charge.l1 k2 t144 s0_0 t181 t182 t116 (x126001_2 ++ [(⟨1,7⟩ : S51)]) t122 ((rd_T51 x126001_1 t144).f0) ((rd_T51 x126001_1 t144).f1)) else (none)) else (if 0 ≤ t144 then (if t144 < (x126001_2.length : Int) then (some (t116,(x126001_2.set (t144 : Int).toNat (⟨((rd_T51 x126001_1 t144).f0),((rd_T51 x126001_1 t144).f1)⟩ : S51)),t122,t181,t182)) else (none)) else (none))) = some (r1,r2,r3,r4,r5):=H
             have A166:=Aside0.mk A1660
             clear A1660
             by_cases c167 : (x126001_2.length : Int) < (wrap64 (6 + t180))
             ·rw [if_pos c167] at H
              have c167b0 : decide ((x126001_2.length : Int) < (wrap64 (6 + t180))) = true:=decide_eq_true c167
              clear c167
              by_cases c168 : x126001_2.length < 8796093022208
              ·rw [if_pos c168] at H
               have LMc168:=Aside0.mk c168
               clear c168
               obtain ⟨y183,hy183⟩ : ∃ y_ : List (S51),y_ = (x126001_2 ++ [(⟨1,7⟩ : S51)]):=⟨_,rfl⟩
               replace H : (spec_l1Cur_charge.l1 k2 t144 s0_0 t181 t182 t116 y183 t122 ((rd_T51 x126001_1 t144).f0) ((rd_T51 x126001_1 t144).f1)) = some (r1,r2,r3,r4,r5):=by (rw [hy183];with_reducible exact H)
               have Ny183:=Aside0.mk hy183
               clear hy183
               have H':=Aside0.mk H
               clear H
               try go_wp2
               have n0_:=Aside0.mk (Kd.R_drew HO_126001.out)
               have n1_:=Aside0.mk (blk_drew BK112.out)
               have n2_:=Aside0.mk (blk_drew BK125.out)
               have n3_:=Aside0.mk (blk_drew BK148.out)
               have n4_:=Aside0.mk (IsS58.drew HI0.out)
               have n5_:=Aside0.mk (keep_drew HK.out)
               have n6_:=Aside0.mk (below_drew1 HB.out)
               clear HO_126001
               clear BK112
               clear BK125
               clear BK148
               clear HI0
               clear HK
               clear HB
               have HO_126001:=n0_
               have BK112:=n1_
               have BK125:=n2_
               have BK148:=n3_
               have HI0:=n4_
               have HK:=n5_
               have HB:=n6_
               clear n0_ n1_ n2_ n3_ n4_ n5_ n6_
               obtain ⟨Ao170,co170,eo170⟩ := Kd.R_slice HO_126001.out
               (subst eo170)
               refine start_ (n:=7) (S:=fun w' => w'.cell? ⟨gb125,0,none⟩ = some (.int .i64 t116) ∧ w'.cell? ⟨gb125,1,none⟩ = some (.slice Ao170 x126001_2.length co170) ∧ w'.cell? ⟨gb125,2,none⟩ = some (.int .i64 t122)) (ds := []) #[false,false,false,false,false,false,false] (by kernel_rfl) rfl rfl ⟨(blk_cell BK125.out 0).trans rfl,(blk_cell BK125.out 1).trans rfl,(blk_cell BK125.out 2).trans rfl⟩ (fun hHeld => ?_)
               generalize wr.drew = w169 at HO_126001 BK112 BK125 BK148 HI0 HK HB hHeld ⊢
               refine pure_ (i:=0) (N:=some 71) (v:=?_) (a':=?_) #[true,false,false,false,false,false,false] rfl rfl (by kernel_rfl) (fun _ _ _ h => h) (Or.inl ⟨by rfl, ?_⟩) ?_ ?_
               rotate_left
               ·intro w'
                go_simp
                with_reducible rfl
               rotate_left
               ·simp only [Act.put,sA_,s0_,s1_,i64_w,i32_w]
                rfl
               refine pure_ (i:=3) (N:=some 74) (v:=?_) (a':=?_) #[true,false,false,true,false,false,false] rfl rfl (by kernel_rfl) (fun _ _ _ h => h) (Or.inl ⟨by rfl, ?_⟩) ?_ ?_
               rotate_left
               ·intro w'
                go_simp
                with_reducible rfl
               rotate_left
               ·simp only [Act.put,sA_,s0_,s1_,i64_w,i32_w]
                rfl
               refine take_ (i:=1) (N:=some 72) (v:=?_) (a':=?_) #[true,true,false,true,false,false,false] rfl rfl (by kernel_rfl) (fun _ _ _ h => h) (Or.inl ⟨by rfl, ?_⟩) hHeld ?_ ?_
               rotate_left
               ·rintro w' ⟨s0,s1,s2⟩
                go_simp
                with_reducible rfl
               rotate_left
               ·simp only [Act.put,sA_,s0_,s1_,i64_w,i32_w]
                rfl
               refine pure_ (i:=2) (N:=some 73) (v:=?_) (a':=?_) #[true,true,true,true,false,false,false] rfl rfl (by kernel_rfl) (fun _ _ _ h => h) (Or.inl ⟨by rfl, ?_⟩) ?_ ?_
               rotate_left
               ·intro w'
                go_simp
                with_reducible rfl
               rotate_left
               ·simp only [Act.put,sA_,s0_,s1_,i64_w,i32_w]
                rfl
               refine one_ (i:=4) (N:=some 75) #[true,true,true,true,true,false,false] rfl rfl (by kernel_rfl) (by decide) (fun K hK => ?_)
               refine goes_ Try.func33 (by kernel_rfl) rfl #[.pointer (some ⟨g,0,none⟩), .int .i64 2] (by rfl) rfl rfl (by (try simp only [List.map_toArray,List.map_cons,List.map_nil]);rfl) ?_
               with_reducible refine (spec_l1Cur_pick.calls g s0_0 x1001_2 x1002_2 2 t180 t181 t182 w0 _ ?side1 ?side2 A166.out).mono ?_
               (case side1 => exact HI0.out)
               (case side2 => exact HB.out)
               rintro e w171 ⟨rfl,hi,hb,hk⟩
               refine ⟨_,rfl, ?_⟩
               have n0_:=Aside0.mk (Kd.R_mono (Kd.R_keep (IsS58.apart (show IsS58 w0 _ g s0_0 x1001_2 x1002_2 from by exact HI0.out) (by exact HO_126001.out) (by decide)) hk (fun _ h => h.2)) (fun _ h => h.1))
               have n1_:=Aside0.mk (KeepBut.blk hk (g':=gb112) (o := .cells #[.int .i64 0, .slice none 0 0, .int .i64 0] 38 (0,0)) (by exact BK112.out) NB112_0.out (by simp))
               have n2_:=Aside0.mk (KeepBut.blk hk (g':=gb125) (o := .cells #[.int .i64 t116, .slice Ao170 x126001_2.length co170, .int .i64 t122] 38 (0,0)) (by exact BK125.out) NB125_0.out (by simp))
               have n3_:=Aside0.mk (KeepBut.blk hk (g':=gb148) (o := .cells #[.int .i64 ((rd_T51 x126001_1 t144).f0), .int .i64 ((rd_T51 x126001_1 t144).f1)] 51 (0,0)) (by exact BK148.out) NB148_0.out (by simp))
               have n4_:=Aside0.mk (KeepBut.trans (by exact HK.out) hk (.inl rfl))
               have n5_:=Aside0.mk (hb)
               have n6_:=Aside0.mk (hi)
               clear HO_126001
               clear BK112
               clear BK125
               clear BK148
               clear HK
               clear HB
               clear HI0
               have HO_126001:=n0_
               have BK112:=n1_
               have BK125:=n2_
               have BK148:=n3_
               have HK:=n4_
               have HB:=n5_
               have HI0:=n6_
               clear n0_ n1_ n2_ n3_ n4_ n5_ n6_
               (try clear hb)
               (skip)
               (try clear hk)
               (try clear hi)
               refine hK.out _ _ ⟨(blk_cell BK125.out 0).trans rfl,(blk_cell BK125.out 1).trans rfl,(blk_cell BK125.out 2).trans rfl⟩ (fun hHeld => ?_)
               clear hK K
               refine norm_ (a':=?_) ?_ ?_
               rotate_left
               ·show Act.put _ (some 75) _ = _
                simp only [Act.put,sA_,s0_,s1_,i64_w,i32_w]
                rfl
               refine pure_ (i:=5) (N:=some 76) (v:=?_) (a':=?_) #[true,true,true,true,true,true,false] rfl rfl (by kernel_rfl) (fun _ _ _ h => h) (Or.inl ⟨by rfl, ?_⟩) ?_ ?_
               rotate_left
               ·intro w'
                go_simp
                with_reducible rfl
               rotate_left
               ·simp only [Act.put,sA_,s0_,s1_,i64_w,i32_w]
                rfl
               refine pure_ (i:=6) (N:=some 77) (v:=?_) (a':=?_) #[true,true,true,true,true,true,true] rfl rfl (by kernel_rfl) (fun _ _ _ h => h) (Or.inl ⟨by rfl, ?_⟩) ?_ ?_
               rotate_left
               ·intro w'
                go_simp
                with_reducible rfl
               rotate_left
               ·simp only [Act.put,sA_,s0_,s1_,i64_w,i32_w]
                rfl
               refine done_ (by kernel_rfl) ?_
               have hnb172:=NB125_112.out
               have hnc172:=NB112_125.out
               have hnb173:=NB125_148.out
               have hnc173:=NB148_125.out
               have hnb174:=NB125_0.out
               have hnc174:=NB0_125.out
               have hcz175_0 : w171.cell? ⟨gb125,0,none⟩ = some (.int .i64 t116):=(blk_cell BK125.out 0).trans rfl
               have hcz175_1 : w171.cell? ⟨gb125,1,none⟩ = some (.slice Ao170 x126001_2.length co170):=(blk_cell BK125.out 1).trans rfl
               have hcz175_2 : w171.cell? ⟨gb125,2,none⟩ = some (.int .i64 t122):=(blk_cell BK125.out 2).trans rfl
               have hfz175_0:=blk_frozen BK125.out 0
               have hfz175_1:=blk_frozen BK125.out 1
               have hfz175_2:=blk_frozen BK125.out 2
               try go_wp2_with (((with_reducible refine gate_builtin (b := .append) (xs:=#[.tmp 79, .tmp 81]) rfl ?_);at_builtin;refine Kd.R_append k51 w.heap.size rfl (.tmp 79) (.tmp 81) 36 51 (.agg #[(.int .i64 0),(.int .i64 0)]) 16 rfl Try.underlying36 info51 rfl (by decide) (by omega) (.slice Ao170 x126001_2.length co170) x126001_2 (⟨1,7⟩ : S51) [.int .i64 1, .int .i64 7] (fun k_ => k_ ≠ gb148) (fun _ => False) rfl rfl ?aP (fun _ hk => hk.elim) ?aF ?aO (Below.refl _ _) ?aS ?aL ?_;(case aP => exact k51_mkM _ _ _ (⟨1,7⟩ : S51));(case aF => exact (fun k_ hk => Kd.freshB (g:=gb148) (o := .cells #[.int .i64 ((rd_T51 x126001_1 t144).f0), .int .i64 ((rd_T51 x126001_1 t144).f1)] 51 (0,0)) (by exact BK148.out) k_ hk));(case aO => exact (by exact HO_126001.out));(case aS => exact (keep_size (w:=w) (g:=g) (row:=none) (by exact HK.out)));(case aL => have:=LMc168.out;omega);intro v184 w176 ho hb hg hat;rw [← Ny183.out] at ho;have n0_:=Aside0.mk (blk_grown (g:=gb112) (o := .cells #[.int .i64 0, .slice none 0 0, .int .i64 0] 38 (0,0)) (by exact BK112.out) hg (Kd.R_ne HO_126001.out BK112.out (by decide)));have n1_:=Aside0.mk (blk_grown (g:=gb125) (o := .cells #[.int .i64 t116, .slice Ao170 x126001_2.length co170, .int .i64 t122] 38 (0,0)) (by exact BK125.out) hg (Kd.R_ne HO_126001.out BK125.out (by decide)));have n2_:=Aside0.mk (blk_grown (g:=gb148) (o := .cells #[.int .i64 ((rd_T51 x126001_1 t144).f0), .int .i64 ((rd_T51 x126001_1 t144).f1)] 51 (0,0)) (by exact BK148.out) hg (Kd.R_away HO_126001.out (fun _ hk => hk)));have n3_:=Aside0.mk (IsS58.grown (by exact HI0.out) hg (IsS58.own_ne HI0.out HO_126001.out (by decide)));have n4_:=Aside0.mk (below_weaken (by exact HB.out) HL.out hb);have n5_:=Aside0.mk (KeepBut.trans (by exact HK.out) (KeepBut.of_grown hg g) (Kd.R_base2 HO_126001.out));have n6_:=Aside0.mk (ho);clear BK112;clear BK125;clear BK148;clear HI0;clear HB;clear HK;clear HO_126001;have BK112:=n0_;have BK125:=n1_;have BK148:=n2_;have HI0:=n3_;have HB:=n4_;have HK:=n5_;have HO185:=n6_;clear n0_ n1_ n2_ n3_ n4_ n5_ n6_;clear ho hb hg hat;obtain ⟨Ao177,co177,eo177⟩ := Kd.R_slice HO185.out;subst eo177;have hcz178_0 : w176.cell? ⟨gb125,0,none⟩ = some (.int .i64 t116):=(blk_cell BK125.out 0).trans rfl;have hcz178_1 : w176.cell? ⟨gb125,1,none⟩ = some (.slice Ao170 x126001_2.length co170):=(blk_cell BK125.out 1).trans rfl;have hcz178_2 : w176.cell? ⟨gb125,2,none⟩ = some (.int .i64 t122):=(blk_cell BK125.out 2).trans rfl;have hfz178_0:=blk_frozen BK125.out 0;have hfz178_1:=blk_frozen BK125.out 1;have hfz178_2:=blk_frozen BK125.out 2))
               go_roundg k2
               case measure => have:=HK1.out;have:=HK2.out;omega
               case rel => exact ⟨(t181),(t182),(y183),(.slice Ao177 y183.length co177),H',⟨by have:=HK1.out;have:=HK2.out;omega⟩,⟨by exact Kd.R_mono (Kd.R_far (p:=⟨gb125,1,none⟩) (Kd.R_types HO185.out BK125.out (by decide)) (fun _ hk => hk.2) (.slice Ao177 y183.length co177)) (fun _ hk => hk.1)⟩,⟨by refine blk_far ?_ NB112_125.out _;exact BK112.out⟩,⟨by refine blk_put (cs:=#[.int .i64 t116, .slice Ao170 x126001_2.length co170, .int .i64 t122]) ?_ 1 _ rfl;exact BK125.out⟩,⟨by refine blk_far ?_ NB148_125.out _;exact BK148.out⟩,⟨by repeat ((with_reducible first | exact HI0.out | refine IsS58.far ?_ NB0_125.out _))⟩,⟨by repeat ((with_reducible first | exact HK.out | refine keep_far ?_ GW125.out _))⟩,⟨by repeat ((with_reducible first | exact HB.out | refine below_set ?_ GE125.out))⟩⟩
              ·rw [if_neg c168] at H
               exact absurd H (by simp)
             ·rw [if_neg c167] at H
              have c167b0 : decide ((x126001_2.length : Int) < (wrap64 (6 + t180))) = false:=decide_eq_false c167
              clear c167
              by_cases c179 : 0 ≤ t144
              ·rw [if_pos c179] at H
               have c179b0 : decide (0 ≤ t144) = true:=decide_eq_true c179
               clear c179
               by_cases c180 : t144 < (x126001_2.length : Int)
               ·rw [if_pos c180] at H
                have c180b0 : decide (t144 < (x126001_2.length : Int)) = true:=decide_eq_true c180
                clear c180
                obtain ⟨y186,hy186⟩ : ∃ y_ : List (S51),y_ = (x126001_2.set (t144 : Int).toNat (⟨((rd_T51 x126001_1 t144).f0),((rd_T51 x126001_1 t144).f1)⟩ : S51)):=⟨_,rfl⟩
                replace H : (some (t116,y186,t122,t181,t182)) = some (r1,r2,r3,r4,r5):=by (rw [hy186];with_reducible exact H)
                have Ny186:=Aside0.mk hy186
                clear hy186
                simp only [Option.some.injEq,Prod.mk.injEq] at H
                obtain ⟨rfl,rfl,rfl,rfl,rfl⟩ := H
                try go_wp2
                have n0_:=Aside0.mk (Kd.R_drew HO_126001.out)
                have n1_:=Aside0.mk (blk_drew BK112.out)
                have n2_:=Aside0.mk (blk_drew BK125.out)
                have n3_:=Aside0.mk (blk_drew BK148.out)
                have n4_:=Aside0.mk (IsS58.drew HI0.out)
                have n5_:=Aside0.mk (keep_drew HK.out)
                have n6_:=Aside0.mk (below_drew1 HB.out)
                clear HO_126001
                clear BK112
                clear BK125
                clear BK148
                clear HI0
                clear HK
                clear HB
                have HO_126001:=n0_
                have BK112:=n1_
                have BK125:=n2_
                have BK148:=n3_
                have HI0:=n4_
                have HK:=n5_
                have HB:=n6_
                clear n0_ n1_ n2_ n3_ n4_ n5_ n6_
                obtain ⟨Ao183,co183,eo183⟩ := Kd.R_slice HO_126001.out
                (subst eo183)
                refine start_ (n:=7) (S:=fun w' => w'.cell? ⟨gb125,0,none⟩ = some (.int .i64 t116) ∧ w'.cell? ⟨gb125,1,none⟩ = some (.slice Ao183 x126001_2.length co183) ∧ w'.cell? ⟨gb125,2,none⟩ = some (.int .i64 t122)) (ds := []) #[false,false,false,false,false,false,false] (by kernel_rfl) rfl rfl ⟨(blk_cell BK125.out 0).trans rfl,(blk_cell BK125.out 1).trans rfl,(blk_cell BK125.out 2).trans rfl⟩ (fun hHeld => ?_)
                generalize wr.drew = w182 at HO_126001 BK112 BK125 BK148 HI0 HK HB hHeld ⊢
                refine pure_ (i:=0) (N:=some 71) (v:=?_) (a':=?_) #[true,false,false,false,false,false,false] rfl rfl (by kernel_rfl) (fun _ _ _ h => h) (Or.inl ⟨by rfl, ?_⟩) ?_ ?_
                rotate_left
                ·intro w'
                 go_simp
                 with_reducible rfl
                rotate_left
                ·simp only [Act.put,sA_,s0_,s1_,i64_w,i32_w]
                 rfl
                refine pure_ (i:=3) (N:=some 74) (v:=?_) (a':=?_) #[true,false,false,true,false,false,false] rfl rfl (by kernel_rfl) (fun _ _ _ h => h) (Or.inl ⟨by rfl, ?_⟩) ?_ ?_
                rotate_left
                ·intro w'
                 go_simp
                 with_reducible rfl
                rotate_left
                ·simp only [Act.put,sA_,s0_,s1_,i64_w,i32_w]
                 rfl
                refine take_ (i:=1) (N:=some 72) (v:=?_) (a':=?_) #[true,true,false,true,false,false,false] rfl rfl (by kernel_rfl) (fun _ _ _ h => h) (Or.inl ⟨by rfl, ?_⟩) hHeld ?_ ?_
                rotate_left
                ·rintro w' ⟨s0,s1,s2⟩
                 go_simp
                 with_reducible rfl
                rotate_left
                ·simp only [Act.put,sA_,s0_,s1_,i64_w,i32_w]
                 rfl
                refine pure_ (i:=2) (N:=some 73) (v:=?_) (a':=?_) #[true,true,true,true,false,false,false] rfl rfl (by kernel_rfl) (fun _ _ _ h => h) (Or.inl ⟨by rfl, ?_⟩) ?_ ?_
                rotate_left
                ·intro w'
                 go_simp
                 with_reducible rfl
                rotate_left
                ·simp only [Act.put,sA_,s0_,s1_,i64_w,i32_w]
                 rfl
                refine one_ (i:=4) (N:=some 75) #[true,true,true,true,true,false,false] rfl rfl (by kernel_rfl) (by decide) (fun K hK => ?_)
                refine goes_ Try.func33 (by kernel_rfl) rfl #[.pointer (some ⟨g,0,none⟩), .int .i64 2] (by rfl) rfl rfl (by (try simp only [List.map_toArray,List.map_cons,List.map_nil]);rfl) ?_
                with_reducible refine (spec_l1Cur_pick.calls g s0_0 x1001_2 x1002_2 2 t180 t181 t182 w0 _ ?side1 ?side2 A166.out).mono ?_
                (case side1 => exact HI0.out)
                (case side2 => exact HB.out)
                rintro e w184 ⟨rfl,hi,hb,hk⟩
                refine ⟨_,rfl, ?_⟩
                have n0_:=Aside0.mk (Kd.R_mono (Kd.R_keep (IsS58.apart (show IsS58 w0 _ g s0_0 x1001_2 x1002_2 from by exact HI0.out) (by exact HO_126001.out) (by decide)) hk (fun _ h => h.2)) (fun _ h => h.1))
                have n1_:=Aside0.mk (KeepBut.blk hk (g':=gb112) (o := .cells #[.int .i64 0, .slice none 0 0, .int .i64 0] 38 (0,0)) (by exact BK112.out) NB112_0.out (by simp))
                have n2_:=Aside0.mk (KeepBut.blk hk (g':=gb125) (o := .cells #[.int .i64 t116, .slice Ao183 x126001_2.length co183, .int .i64 t122] 38 (0,0)) (by exact BK125.out) NB125_0.out (by simp))
                have n3_:=Aside0.mk (KeepBut.blk hk (g':=gb148) (o := .cells #[.int .i64 ((rd_T51 x126001_1 t144).f0), .int .i64 ((rd_T51 x126001_1 t144).f1)] 51 (0,0)) (by exact BK148.out) NB148_0.out (by simp))
                have n4_:=Aside0.mk (KeepBut.trans (by exact HK.out) hk (.inl rfl))
                have n5_:=Aside0.mk (hb)
                have n6_:=Aside0.mk (hi)
                clear HO_126001
                clear BK112
                clear BK125
                clear BK148
                clear HK
                clear HB
                clear HI0
                have HO_126001:=n0_
                have BK112:=n1_
                have BK125:=n2_
                have BK148:=n3_
                have HK:=n4_
                have HB:=n5_
                have HI0:=n6_
                clear n0_ n1_ n2_ n3_ n4_ n5_ n6_
                (try clear hb)
                (skip)
                (try clear hk)
                (try clear hi)
                refine hK.out _ _ ⟨(blk_cell BK125.out 0).trans rfl,(blk_cell BK125.out 1).trans rfl,(blk_cell BK125.out 2).trans rfl⟩ (fun hHeld => ?_)
                clear hK K
                refine norm_ (a':=?_) ?_ ?_
                rotate_left
                ·show Act.put _ (some 75) _ = _
                 simp only [Act.put,sA_,s0_,s1_,i64_w,i32_w]
                 rfl
                refine pure_ (i:=5) (N:=some 76) (v:=?_) (a':=?_) #[true,true,true,true,true,true,false] rfl rfl (by kernel_rfl) (fun _ _ _ h => h) (Or.inl ⟨by rfl, ?_⟩) ?_ ?_
                rotate_left
                ·intro w'
                 go_simp
                 with_reducible rfl
                rotate_left
                ·simp only [Act.put,sA_,s0_,s1_,i64_w,i32_w]
                 rfl
                refine pure_ (i:=6) (N:=some 77) (v:=?_) (a':=?_) #[true,true,true,true,true,true,true] rfl rfl (by kernel_rfl) (fun _ _ _ h => h) (Or.inl ⟨by rfl, ?_⟩) ?_ ?_
                rotate_left
                ·intro w'
                 go_simp
                 with_reducible rfl
                rotate_left
                ·simp only [Act.put,sA_,s0_,s1_,i64_w,i32_w]
                 rfl
                refine done_ (by kernel_rfl) ?_
                have hnb185:=NB125_112.out
                have hnc185:=NB112_125.out
                have hnb186:=NB125_148.out
                have hnc186:=NB148_125.out
                have hnb187:=NB125_0.out
                have hnc187:=NB0_125.out
                have hcz188_0 : w184.cell? ⟨gb125,0,none⟩ = some (.int .i64 t116):=(blk_cell BK125.out 0).trans rfl
                have hcz188_1 : w184.cell? ⟨gb125,1,none⟩ = some (.slice Ao183 x126001_2.length co183):=(blk_cell BK125.out 1).trans rfl
                have hcz188_2 : w184.cell? ⟨gb125,2,none⟩ = some (.int .i64 t122):=(blk_cell BK125.out 2).trans rfl
                have hfz188_0:=blk_frozen BK125.out 0
                have hfz188_1:=blk_frozen BK125.out 1
                have hfz188_2:=blk_frozen BK125.out 2
                have hnb189:=NB148_112.out
                have hnc189:=NB112_148.out
                have hnb190:=NB148_0.out
                have hnc190:=NB0_148.out
                have hcz191_0 : w184.cell? ⟨gb148,0,none⟩ = some (.int .i64 ((rd_T51 x126001_1 t144).f0)):=(blk_cell BK148.out 0).trans rfl
                have hcz191_1 : w184.cell? ⟨gb148,1,none⟩ = some (.int .i64 ((rd_T51 x126001_1 t144).f1)):=(blk_cell BK148.out 1).trans rfl
                have hfz191_0:=blk_frozen BK148.out 0
                have hfz191_1:=blk_frozen BK148.out 1
                have p181 : 0 ≤ (t144 : Int):=of_decide_eq_true (by (with_reducible assumption))
                have q181 : (t144 : Int) < ((x126001_2.length : Int) : Int):=of_decide_eq_true (by (with_reducible assumption))
                obtain ⟨go181,co181,eo181,gb181,gl181,cl181,HG181⟩ := Kd.R_form HO_126001.out (by omega)
                (cases eo181)
                have GB181:=Aside0.mk gb181
                have GG181:=Aside0.mk HG181
                clear gb181 gl181 HG181
                obtain ⟨ce181,hcl181,hM181,hcc181,hfr181⟩ := Kd.R_elem HO_126001.out z51 (t144 : Int) p181 q181
                obtain rfl:=k51_openM hM181
                have hx181_0 : w184.cell? ⟨go181,(t144 : Int).toNat * 2,none⟩ = some (.int .i64 ((rd_T51 x126001_2 t144).f0)):=hcc181 0 _ rfl
                have hx181_1 : w184.cell? ⟨go181,(t144 : Int).toNat * 2 + 1,none⟩ = some (.int .i64 ((rd_T51 x126001_2 t144).f1)):=hcc181 1 _ rfl
                have hf181_0 : w184.frozen? ⟨go181,(t144 : Int).toNat * 2,none⟩ = false:=hfr181 0
                have hf181_1 : w184.frozen? ⟨go181,(t144 : Int).toNat * 2 + 1,none⟩ = false:=hfr181 1
                clear hcl181 hcc181 hfr181;(try clear hM181)
                replace p181:=eq_true p181
                replace q181:=eq_true q181
                have HX192:=Aside0.mk (show Kd.R k51 51 w184 w.heap.size (fun k_ => k_ ≠ gb148) (.slice (some ⟨go181,0,none⟩) x126001_2.length co183) x126001_2 from (by exact HO_126001.out))
                obtain ⟨ce192,hcl192,hM192,hcc192,hfr192⟩ := Kd.R_elem HX192.out z51 (t144 : Int) (of_decide_eq_true (by (with_reducible assumption))) (by have h_ : (t144 : Int) < ((x126001_2.length : Int) : Int):=of_decide_eq_true (by (with_reducible assumption));exact h_)
                obtain rfl:=k51_openM hM192
                have HP192:=Kd.R_seg HX192.out (t144 : Int) (of_decide_eq_true (by (with_reducible assumption))) (by have h_ : (t144 : Int) < ((x126001_2.length : Int) : Int):=of_decide_eq_true (by (with_reducible assumption));exact h_) (seg := [.int .i64 ((rd_T51 x126001_1 t144).f0), .int .i64 ((rd_T51 x126001_1 t144).f1)]) (j:=0) hcl192 hcc192 (show 2 ≤ 2 from by decide) (x':=(⟨((rd_T51 x126001_1 t144).f0),((rd_T51 x126001_1 t144).f1)⟩ : S51)) (k51_mkM _ _ _ (⟨((rd_T51 x126001_1 t144).f0),((rd_T51 x126001_1 t144).f1)⟩ : S51) ) (fun _ hk => hk)
                have hx192_0:=hcc192 0 _ rfl
                (try simp only [show (k51).sz = 2 from rfl,Nat.mul_one,Nat.add_zero] at hx192_0)
                have hf192_0:=hfr192 0
                (try simp only [show (k51).sz = 2 from rfl,Nat.mul_one,Nat.add_zero] at hf192_0)
                have hx192_1:=hcc192 1 _ rfl
                (try simp only [show (k51).sz = 2 from rfl,Nat.mul_one,Nat.add_zero] at hx192_1)
                have hf192_1:=hfr192 1
                (try simp only [show (k51).sz = 2 from rfl,Nat.mul_one,Nat.add_zero] at hf192_1)
                clear hcl192 hcc192 hfr192;(try clear hM192)
                try go_wp2_with (((with_reducible refine gate_store (t:=51) (p:=88) rfl ?_);refine store_event (t:=51) (p:=88) (v:=?vo_w193) (w1:=((w184.setCell ⟨go181,(t144 : Int).toNat * 2,none⟩ (.int .i64 ((rd_T51 x126001_1 t144).f0))).setCell ⟨go181,(t144 : Int).toNat * 2 + 1,none⟩ (.int .i64 ((rd_T51 x126001_1 t144).f1)))) ?hg ?ho ?hn ?hr ?_;(case ho => rfl);(case hg => rfl);(case hn => rfl);(case hr => (go_simp;done));intro w193 hw;have hg : w184.grownBy w193 (some go181):=(by rw [hw];exact HP192.2);have hp_ : Kd.R k51 51 w193 w.heap.size (fun k_ => k_ ≠ gb148) (.slice (some ⟨go181,0,none⟩) x126001_2.length co183) y186:=(by rw [hw,Ny186.out];exact HP192.1);clear HP192;have n0_:=Aside0.mk (hp_);have n1_:=Aside0.mk (blk_grown (g:=gb112) (o := .cells #[.int .i64 0, .slice none 0 0, .int .i64 0] 38 (0,0)) (by exact BK112.out) hg (Kd.R_ne HO_126001.out BK112.out (by decide)));have n2_:=Aside0.mk (blk_grown (g:=gb125) (o := .cells #[.int .i64 t116, .slice (some ⟨go181,0,none⟩) x126001_2.length co183, .int .i64 t122] 38 (0,0)) (by exact BK125.out) hg (Kd.R_ne HO_126001.out BK125.out (by decide)));have n3_:=Aside0.mk (blk_grown (g:=gb148) (o := .cells #[.int .i64 ((rd_T51 x126001_1 t144).f0), .int .i64 ((rd_T51 x126001_1 t144).f1)] 51 (0,0)) (by exact BK148.out) hg (Kd.R_away HO_126001.out (fun _ hk => hk)));have n4_:=Aside0.mk (IsS58.grown (by exact HI0.out) hg (IsS58.own_ne HI0.out HO_126001.out (by decide)));have n5_:=Aside0.mk ((by rw [hw];exact below_set (below_set (HB.out) (Nat.le_trans HL.out GB181.out)) (Nat.le_trans HL.out GB181.out) : Below w0.heap.size w0 w193));have n6_:=Aside0.mk (KeepBut.trans (by exact HK.out) (KeepBut.of_grown hg g) (Kd.R_base2 HO_126001.out));clear HO_126001;clear BK112;clear BK125;clear BK148;clear HI0;clear HB;clear HK;have HO_126001:=n0_;have BK112:=n1_;have BK125:=n2_;have BK148:=n3_;have HI0:=n4_;have HB:=n5_;have HK:=n6_;clear n0_ n1_ n2_ n3_ n4_ n5_ n6_;clear hg hw hp_;have hcz194_0 : w193.cell? ⟨gb125,0,none⟩ = some (.int .i64 t116):=(blk_cell BK125.out 0).trans rfl;have hcz194_1 : w193.cell? ⟨gb125,1,none⟩ = some (.slice (some ⟨go181,0,none⟩) x126001_2.length co183):=(blk_cell BK125.out 1).trans rfl;have hcz194_2 : w193.cell? ⟨gb125,2,none⟩ = some (.int .i64 t122):=(blk_cell BK125.out 2).trans rfl;have hfz194_0:=blk_frozen BK125.out 0;have hfz194_1:=blk_frozen BK125.out 1;have hfz194_2:=blk_frozen BK125.out 2;have hnb195:=NB112_0.out;have hnc195:=NB0_112.out;have hcz196_0 : w193.cell? ⟨gb112,0,none⟩ = some (.int .i64 0):=(blk_cell BK112.out 0).trans rfl;have hcz196_1 : w193.cell? ⟨gb112,1,none⟩ = some (.slice none 0 0):=(blk_cell BK112.out 1).trans rfl;have hcz196_2 : w193.cell? ⟨gb112,2,none⟩ = some (.int .i64 0):=(blk_cell BK112.out 2).trans rfl;have hfz196_0:=blk_frozen BK112.out 0;have hfz196_1:=blk_frozen BK112.out 1;have hfz196_2:=blk_frozen BK112.out 2))
                refine bodyPost_ret (results_cell_row rfl _ _ gb112 38 #[.int .i64 t116, .slice (some ⟨go181,0,none⟩) x126001_2.length co183, .int .i64 t122] (0,0) _ rfl (by refine blk_put (cs:=#[.int .i64 t116, .slice (some ⟨go181,0,none⟩) x126001_2.length co183, .int .i64 0]) ?_ 2 _ rfl;refine blk_put (cs:=#[.int .i64 t116, .slice none 0 0, .int .i64 0]) ?_ 1 _ rfl;refine blk_put (cs:=#[.int .i64 0, .slice none 0 0, .int .i64 0]) ?_ 0 _ rfl;exact BK112.out) Try.underlying38 rfl (by kernel_rfl)) rfl ?_
                exact ⟨_,by rfl,by exact Kd.R_mono (Kd.R_far (p:=⟨gb112,2,none⟩) (Kd.R_far (p:=⟨gb112,1,none⟩) (Kd.R_far (p:=⟨gb112,0,none⟩) (Kd.R_types HO_126001.out BK112.out (by decide)) (fun _ hk => hk.2) (.int .i64 t116)) (fun _ hk => hk.2) (.slice (some ⟨go181,0,none⟩) x126001_2.length co183)) (fun _ hk => hk.2) (.int .i64 t122)) (fun _ hk => trivial),by repeat ((with_reducible first | exact HI0.out | refine IsS58.far ?_ NB0_112.out _)),by repeat ((with_reducible first | exact HB.out | refine below_set ?_ GE112.out)),by repeat ((with_reducible first | exact HK.out | refine keep_far ?_ GW112.out _))⟩
               ·rw [if_neg c180] at H
                exact absurd H (by simp)
              ·rw [if_neg c179] at H
               exact absurd H (by simp)
          ·rw [if_neg c153] at H
           have c153b0 : (t149 == 4) = false:=beq_eq_false_iff_ne.mpr c153
           have c153b1 : (t149 != 4) = true:=bne_iff_ne.mpr c153
           obtain ⟨y187,hy187⟩ : ∃ y_ : List (S51),y_ = (x126001_1.set (t144 : Int).toNat (⟨(rd_T51 x126001_1 t144).f0,(rd_T51 x126001_1 t144).f1⟩ : S51)):=⟨_,rfl⟩
           replace H : (some (t116,y187,t122,t150,t151)) = some (r1,r2,r3,r4,r5):=by (rw [hy187];with_reducible exact H)
           have Ny187:=Aside0.mk hy187
           clear hy187
           simp only [Option.some.injEq,Prod.mk.injEq] at H
           obtain ⟨rfl,rfl,rfl,rfl,rfl⟩ := H
           have hnb198:=NB125_112.out
           have hnc198:=NB112_125.out
           have hnb199:=NB125_0.out
           have hnc199:=NB0_125.out
           have hcz200_0 : wr.cell? ⟨gb125,0,none⟩ = some (.int .i64 t116):=(blk_cell BK125.out 0).trans rfl
           have hcz200_1 : wr.cell? ⟨gb125,1,none⟩ = some (u126001):=(blk_cell BK125.out 1).trans rfl
           have hcz200_2 : wr.cell? ⟨gb125,2,none⟩ = some (.int .i64 t122):=(blk_cell BK125.out 2).trans rfl
           have hfz200_0:=blk_frozen BK125.out 0
           have hfz200_1:=blk_frozen BK125.out 1
           have hfz200_2:=blk_frozen BK125.out 2
           obtain ⟨Ao201,co201,eo201⟩ := Kd.R_slice HO_126001.out
           subst eo201
           go_wp2_with (first | ((with_reducible refine gate_callee (f:=33) rfl ?_);refine goesL_ (some 37) rfl rfl Try.func33 (by kernel_rfl) rfl #[.pointer (some ⟨g,0,none⟩), .int .i64 (x126001_1.length : Int)] rfl (by (try simp only [List.map_toArray,List.map_cons,List.map_nil]);rfl) ?_;(with_reducible refine (spec_l1Cur_pick.calls g s0_0 x1001_1 x1002_1 (x126001_1.length : Int) t144 t145 t146 w0 _ ?side1 ?side2 A37.out).mono ?_);(case side1 => exact HI0.out);(case side2 => exact HB.out);rintro e w202 ⟨rfl,hi,hb,hk⟩;refine ⟨_,rfl, ?_⟩;have n0_:=Aside0.mk (Kd.R_mono (Kd.R_keep (IsS58.apart (show IsS58 w0 _ g s0_0 x1001_1 x1002_1 from by exact HI0.out) (by exact HO_126001.out) (by decide)) hk (fun _ h => h.2)) (fun _ h => h.1));have n1_:=Aside0.mk (KeepBut.blk hk (g':=gb112) (o := .cells #[.int .i64 0, .slice none 0 0, .int .i64 0] 38 (0,0)) (by exact BK112.out) NB112_0.out (by simp));have n2_:=Aside0.mk (KeepBut.blk hk (g':=gb125) (o := .cells #[.int .i64 t116, .slice Ao201 x126001_1.length co201, .int .i64 t122] 38 (0,0)) (by exact BK125.out) NB125_0.out (by simp));have n3_:=Aside0.mk (KeepBut.trans (by exact HK.out) hk (.inl rfl));have n4_:=Aside0.mk (hb);have n5_:=Aside0.mk (hi);clear HO_126001;clear BK112;clear BK125;clear HK;clear HB;clear HI0;have HO_126001:=n0_;have BK112:=n1_;have BK125:=n2_;have HK:=n3_;have HB:=n4_;have HI0:=n5_;clear n0_ n1_ n2_ n3_ n4_ n5_;(try clear hb);(try clear hk);(try clear hi);have hcz203_0 : w202.cell? ⟨gb125,0,none⟩ = some (.int .i64 t116):=(blk_cell BK125.out 0).trans rfl;have hcz203_1 : w202.cell? ⟨gb125,1,none⟩ = some (.slice Ao201 x126001_1.length co201):=(blk_cell BK125.out 1).trans rfl;have hcz203_2 : w202.cell? ⟨gb125,2,none⟩ = some (.int .i64 t122):=(blk_cell BK125.out 2).trans rfl;have hfz203_0:=blk_frozen BK125.out 0;have hfz203_1:=blk_frozen BK125.out 1;have hfz203_2:=blk_frozen BK125.out 2;have p147 : 0 ≤ (t144 : Int):=of_decide_eq_true (by (with_reducible assumption));have q147 : t144 < (x126001_1.length : Int):=of_decide_eq_true (by (with_reducible assumption));obtain ⟨ad147,e147,hx147_0,hx147_1⟩ := at_T51 (Kd.R_reads' HO_126001.out).2.2 t144 p147 q147;cases e147;replace p147:=eq_true p147;replace q147:=eq_true q147) | ((with_reducible refine gate_dst (N:=6) rfl ?_);refine box_event ?hg (N:=6) ?hd (cs:=#[.int .i64 0, .int .i64 0]) (t:=51) ?hr ?_;(case hd => rfl);(case hg => rfl);(case hr => (go_simp;done));intro gb148 hg w204 hbox hb;have n0_:=Aside0.mk (Kd.R_below (Kd.R_elderB (by exact HO_126001.out) gb148 (Nat.le_of_eq hg.symm)) hb);have n1_:=Aside0.mk (blk_below (g:=gb112) (o := .cells #[.int .i64 0, .slice none 0 0, .int .i64 0] 38 (0,0)) (by exact BK112.out) hb);have n2_:=Aside0.mk (blk_below (g:=gb125) (o := .cells #[.int .i64 t116, .slice (some ad147) x126001_1.length co201, .int .i64 t122] 38 (0,0)) (by exact BK125.out) hb);have n3_:=Aside0.mk (IsS58.below (by exact HI0.out) hb);have n4_:=Aside0.mk (KeepBut.trans (by exact HK.out) (KeepBut.of_below hb g none) (.inl rfl));have n5_:=Aside0.mk (below_step (by exact HB.out) hb);have n6_:=Aside0.mk (hbox);have n7_:=Aside0.mk ((by rw [hg];exact (keep_size (w:=w) (g:=g) (row:=none) (by exact HK.out)) : w.heap.size ≤ gb148));have n8_:=Aside0.mk ((Nat.le_trans HW0.out (by rw [hg];exact (keep_size (w:=w) (g:=g) (row:=none) (by exact HK.out)) : w.heap.size ≤ gb148) : w0.heap.size ≤ gb148));have n9_:=Aside0.mk ((by rw [hg];exact Nat.ne_of_lt (blk_lt (g:=gb112) (o := .cells #[.int .i64 0, .slice none 0 0, .int .i64 0] 38 (0,0)) (by exact BK112.out)) : gb112 ≠ gb148));have n10_:=Aside0.mk ((by rw [hg];exact Nat.ne_of_gt (blk_lt (g:=gb112) (o := .cells #[.int .i64 0, .slice none 0 0, .int .i64 0] 38 (0,0)) (by exact BK112.out)) : gb148 ≠ gb112));have n11_:=Aside0.mk ((by rw [hg];exact Nat.ne_of_lt (blk_lt (g:=gb125) (o := .cells #[.int .i64 t116, .slice (some ad147) x126001_1.length co201, .int .i64 t122] 38 (0,0)) (by exact BK125.out)) : gb125 ≠ gb148));have n12_:=Aside0.mk ((by rw [hg];exact Nat.ne_of_gt (blk_lt (g:=gb125) (o := .cells #[.int .i64 t116, .slice (some ad147) x126001_1.length co201, .int .i64 t122] 38 (0,0)) (by exact BK125.out)) : gb148 ≠ gb125));have n13_:=Aside0.mk ((by rw [hg];exact Nat.ne_of_lt (IsS58.lt (show IsS58 w0 _ g s0_0 t145 t146 from by exact HI0.out)) : g ≠ gb148));have n14_:=Aside0.mk ((by rw [hg];exact Nat.ne_of_gt (IsS58.lt (show IsS58 w0 _ g s0_0 t145 t146 from by exact HI0.out)) : gb148 ≠ g));clear HO_126001;clear BK112;clear BK125;clear HI0;clear HK;clear HB;have HO_126001:=n0_;have BK112:=n1_;have BK125:=n2_;have HI0:=n3_;have HK:=n4_;have HB:=n5_;have BK148:=n6_;have GW148:=n7_;have GE148:=n8_;have NB112_148:=n9_;have NB148_112:=n10_;have NB125_148:=n11_;have NB148_125:=n12_;have NB0_148:=n13_;have NB148_0:=n14_;clear n0_ n1_ n2_ n3_ n4_ n5_ n6_ n7_ n8_ n9_ n10_ n11_ n12_ n13_ n14_;clear hb hbox hg;have hnb205:=NB148_112.out;have hnc205:=NB112_148.out;have hnb206:=NB148_125.out;have hnc206:=NB125_148.out;have hnb207:=NB148_0.out;have hnc207:=NB0_148.out;have hcz208_0 : w204.cell? ⟨gb148,0,none⟩ = some (.int .i64 0):=(blk_cell BK148.out 0).trans rfl;have hcz208_1 : w204.cell? ⟨gb148,1,none⟩ = some (.int .i64 0):=(blk_cell BK148.out 1).trans rfl;have hfz208_0:=blk_frozen BK148.out 0;have hfz208_1:=blk_frozen BK148.out 1) | ((with_reducible refine gate_callee (f:=33) rfl ?_);refine goesL_ (some 44) rfl rfl Try.func33 (by kernel_rfl) rfl #[.pointer (some ⟨g,0,none⟩), .int .i64 40] rfl (by (try simp only [List.map_toArray,List.map_cons,List.map_nil]);rfl) ?_;(with_reducible refine (spec_l1Cur_pick.calls g s0_0 t145 t146 40 t149 t150 t151 w0 _ ?side1 ?side2 A40.out).mono ?_);(case side1 => repeat ((with_reducible first | exact HI0.out | refine IsS58.far ?_ NB0_148.out _)));(case side2 => repeat ((with_reducible first | exact HB.out | refine below_set ?_ GE148.out)));rintro e w209 ⟨rfl,hi,hb,hk⟩;refine ⟨_,rfl, ?_⟩;have n0_:=Aside0.mk (Kd.R_mono (Kd.R_keep (IsS58.apart (show IsS58 w0 _ g s0_0 t145 t146 from by repeat ((with_reducible first | exact HI0.out | refine IsS58.far ?_ NB0_148.out _))) (by exact (Kd.R_mono (Kd.R_far (p:=⟨gb148,1,none⟩) (Kd.R_far (p:=⟨gb148,0,none⟩) (Kd.R_mono HO_126001.out (fun k_ hk => (⟨hk,hk.2⟩ : _ ∧ k_ ≠ gb148))) (fun _ hk => hk.2) (.int .i64 ((rd_T51 x126001_1 t144).f0))) (fun _ hk => hk.2) (.int .i64 ((rd_T51 x126001_1 t144).f1))) (fun _ h_ => h_.1))) (by decide)) hk (fun _ h => h.2)) (fun _ h => h.1));have n1_:=Aside0.mk (KeepBut.blk hk (g':=gb112) (o := .cells #[.int .i64 0, .slice none 0 0, .int .i64 0] 38 (0,0)) (by refine blk_far ?_ NB112_148.out _;refine blk_far ?_ NB112_148.out _;exact BK112.out) NB112_0.out (by simp));have n2_:=Aside0.mk (KeepBut.blk hk (g':=gb125) (o := .cells #[.int .i64 t116, .slice (some ad147) x126001_1.length co201, .int .i64 t122] 38 (0,0)) (by refine blk_far ?_ NB125_148.out _;refine blk_far ?_ NB125_148.out _;exact BK125.out) NB125_0.out (by simp));have n3_:=Aside0.mk (KeepBut.blk hk (g':=gb148) (o := .cells #[.int .i64 ((rd_T51 x126001_1 t144).f0), .int .i64 ((rd_T51 x126001_1 t144).f1)] 51 (0,0)) (by refine blk_put (cs:=#[.int .i64 ((rd_T51 x126001_1 t144).f0), .int .i64 0]) ?_ 1 _ rfl;refine blk_put (cs:=#[.int .i64 0, .int .i64 0]) ?_ 0 _ rfl;exact BK148.out) NB148_0.out (by simp));have n4_:=Aside0.mk (KeepBut.trans (by repeat ((with_reducible first | exact HK.out | refine keep_far ?_ GW148.out _))) hk (.inl rfl));have n5_:=Aside0.mk (hb);have n6_:=Aside0.mk (hi);clear HO_126001;clear BK112;clear BK125;clear BK148;clear HK;clear HB;clear HI0;have HO_126001:=n0_;have BK112:=n1_;have BK125:=n2_;have BK148:=n3_;have HK:=n4_;have HB:=n5_;have HI0:=n6_;clear n0_ n1_ n2_ n3_ n4_ n5_ n6_;(try clear hb);(try clear hk);(try clear hi);have hcz210_0 : w209.cell? ⟨gb125,0,none⟩ = some (.int .i64 t116):=(blk_cell BK125.out 0).trans rfl;have hcz210_1 : w209.cell? ⟨gb125,1,none⟩ = some (.slice (some ad147) x126001_1.length co201):=(blk_cell BK125.out 1).trans rfl;have hcz210_2 : w209.cell? ⟨gb125,2,none⟩ = some (.int .i64 t122):=(blk_cell BK125.out 2).trans rfl;have hfz210_0:=blk_frozen BK125.out 0;have hfz210_1:=blk_frozen BK125.out 1;have hfz210_2:=blk_frozen BK125.out 2;have hcz211_0 : w209.cell? ⟨gb148,0,none⟩ = some (.int .i64 ((rd_T51 x126001_1 t144).f0)):=(blk_cell BK148.out 0).trans rfl;have hcz211_1 : w209.cell? ⟨gb148,1,none⟩ = some (.int .i64 ((rd_T51 x126001_1 t144).f1)):=(blk_cell BK148.out 1).trans rfl;have hfz211_0:=blk_frozen BK148.out 0;have hfz211_1:=blk_frozen BK148.out 1;have p197 : 0 ≤ (t144 : Int):=of_decide_eq_true (by (with_reducible assumption));have q197 : (t144 : Int) < ((x126001_1.length : Int) : Int):=of_decide_eq_true (by (with_reducible assumption));obtain ⟨go197,co197,eo197,gb197,gl197,cl197,HG197⟩ := Kd.R_form HO_126001.out (by omega);(cases eo197);have GB197:=Aside0.mk gb197;have GG197:=Aside0.mk HG197;clear gb197 gl197 HG197;(simp only [add_plain] at hx147_0);(simp only [add_plain] at hx147_1);obtain ⟨ce197,hcl197,hM197,hcc197,hfr197⟩ := Kd.R_elem HO_126001.out z51 (t144 : Int) p197 q197;obtain rfl:=k51_openM hM197;have hx197_0 : w209.cell? ⟨go197,(t144 : Int).toNat * 2,none⟩ = some (.int .i64 ((rd_T51 x126001_1 t144).f0)):=hcc197 0 _ rfl;have hx197_1 : w209.cell? ⟨go197,(t144 : Int).toNat * 2 + 1,none⟩ = some (.int .i64 ((rd_T51 x126001_1 t144).f1)):=hcc197 1 _ rfl;have hf197_0 : w209.frozen? ⟨go197,(t144 : Int).toNat * 2,none⟩ = false:=hfr197 0;have hf197_1 : w209.frozen? ⟨go197,(t144 : Int).toNat * 2 + 1,none⟩ = false:=hfr197 1;clear hcl197 hcc197 hfr197;(try clear hM197);replace p197:=eq_true p197;replace q197:=eq_true q197;have n_:=Aside0.mk (Kd.R_mono (ok':=(fun k_ => k_ ≠ gb148)) HO_126001.out (fun k_ hk => hk.2));clear HO_126001;have HO_126001:=n_;clear n_;have HX212:=Aside0.mk (show Kd.R k51 51 w209 w.heap.size (fun k_ => k_ ≠ gb148) (.slice (some ⟨go197,0,none⟩) x126001_1.length co201) x126001_1 from (by exact HO_126001.out));obtain ⟨ce212,hcl212,hM212,hcc212,hfr212⟩ := Kd.R_elem HX212.out z51 (t144 : Int) (of_decide_eq_true (by (with_reducible assumption))) (by have h_ : (t144 : Int) < ((x126001_1.length : Int) : Int):=of_decide_eq_true (by (with_reducible assumption));exact h_);obtain rfl:=k51_openM hM212;have HP212:=Kd.R_seg HX212.out (t144 : Int) (of_decide_eq_true (by (with_reducible assumption))) (by have h_ : (t144 : Int) < ((x126001_1.length : Int) : Int):=of_decide_eq_true (by (with_reducible assumption));exact h_) (seg := [.int .i64 ((rd_T51 x126001_1 t144).f0), .int .i64 ((rd_T51 x126001_1 t144).f1)]) (j:=0) hcl212 hcc212 (show 2 ≤ 2 from by decide) (x':=(⟨(rd_T51 x126001_1 t144).f0,(rd_T51 x126001_1 t144).f1⟩ : S51)) (k51_mkM _ _ _ (⟨(rd_T51 x126001_1 t144).f0,(rd_T51 x126001_1 t144).f1⟩ : S51) ) (fun _ hk => hk);have hx212_0:=hcc212 0 _ rfl;(try simp only [show (k51).sz = 2 from rfl,Nat.mul_one,Nat.add_zero] at hx212_0);have hf212_0:=hfr212 0;(try simp only [show (k51).sz = 2 from rfl,Nat.mul_one,Nat.add_zero] at hf212_0);have hx212_1:=hcc212 1 _ rfl;(try simp only [show (k51).sz = 2 from rfl,Nat.mul_one,Nat.add_zero] at hx212_1);have hf212_1:=hfr212 1;(try simp only [show (k51).sz = 2 from rfl,Nat.mul_one,Nat.add_zero] at hf212_1);clear hcl212 hcc212 hfr212;(try clear hM212)) | ((with_reducible refine gate_store (t:=51) (p:=88) rfl ?_);refine store_event (t:=51) (p:=88) (v:=?vo_w213) (w1:=((w209.setCell ⟨go197,(t144 : Int).toNat * 2,none⟩ (.int .i64 ((rd_T51 x126001_1 t144).f0))).setCell ⟨go197,(t144 : Int).toNat * 2 + 1,none⟩ (.int .i64 ((rd_T51 x126001_1 t144).f1)))) ?hg ?ho ?hn ?hr ?_;(case ho => rfl);(case hg => rfl);(case hn => rfl);(case hr => (go_simp;done));intro w213 hw;have hg : w209.grownBy w213 (some go197):=(by rw [hw];exact HP212.2);have hp_ : Kd.R k51 51 w213 w.heap.size (fun k_ => k_ ≠ gb148) (.slice (some ⟨go197,0,none⟩) x126001_1.length co201) y187:=(by rw [hw,Ny187.out];exact HP212.1);clear HP212;have n0_:=Aside0.mk (hp_);have n1_:=Aside0.mk (blk_grown (g:=gb112) (o := .cells #[.int .i64 0, .slice none 0 0, .int .i64 0] 38 (0,0)) (by exact BK112.out) hg (Kd.R_ne HO_126001.out BK112.out (by decide)));have n2_:=Aside0.mk (blk_grown (g:=gb125) (o := .cells #[.int .i64 t116, .slice (some ⟨go197,0,none⟩) x126001_1.length co201, .int .i64 t122] 38 (0,0)) (by exact BK125.out) hg (Kd.R_ne HO_126001.out BK125.out (by decide)));have n3_:=Aside0.mk (IsS58.grown (by exact HI0.out) hg (IsS58.own_ne HI0.out HO_126001.out (by decide)));have n4_:=Aside0.mk (blk_grown (g:=gb148) (o := .cells #[.int .i64 ((rd_T51 x126001_1 t144).f0), .int .i64 ((rd_T51 x126001_1 t144).f1)] 51 (0,0)) (by exact BK148.out) hg (Kd.R_away HO_126001.out (fun _ hk => hk)));have n5_:=Aside0.mk ((by rw [hw];exact below_set (below_set (HB.out) (Nat.le_trans HL.out GB197.out)) (Nat.le_trans HL.out GB197.out) : Below w0.heap.size w0 w213));have n6_:=Aside0.mk (KeepBut.trans (by exact HK.out) (KeepBut.of_grown hg g) (Kd.R_base2 HO_126001.out));clear HO_126001;clear BK112;clear BK125;clear HI0;clear BK148;clear HB;clear HK;have HO_126001:=n0_;have BK112:=n1_;have BK125:=n2_;have HI0:=n3_;have BK148:=n4_;have HB:=n5_;have HK:=n6_;clear n0_ n1_ n2_ n3_ n4_ n5_ n6_;clear hg hw hp_;have hcz214_0 : w213.cell? ⟨gb125,0,none⟩ = some (.int .i64 t116):=(blk_cell BK125.out 0).trans rfl;have hcz214_1 : w213.cell? ⟨gb125,1,none⟩ = some (.slice (some ⟨go197,0,none⟩) x126001_1.length co201):=(blk_cell BK125.out 1).trans rfl;have hcz214_2 : w213.cell? ⟨gb125,2,none⟩ = some (.int .i64 t122):=(blk_cell BK125.out 2).trans rfl;have hfz214_0:=blk_frozen BK125.out 0;have hfz214_1:=blk_frozen BK125.out 1;have hfz214_2:=blk_frozen BK125.out 2;have hnb215:=NB112_0.out;have hnc215:=NB0_112.out;have hcz216_0 : w213.cell? ⟨gb112,0,none⟩ = some (.int .i64 0):=(blk_cell BK112.out 0).trans rfl;have hcz216_1 : w213.cell? ⟨gb112,1,none⟩ = some (.slice none 0 0):=(blk_cell BK112.out 1).trans rfl;have hcz216_2 : w213.cell? ⟨gb112,2,none⟩ = some (.int .i64 0):=(blk_cell BK112.out 2).trans rfl;have hfz216_0:=blk_frozen BK112.out 0;have hfz216_1:=blk_frozen BK112.out 1;have hfz216_2:=blk_frozen BK112.out 2))
           refine bodyPost_ret (results_cell_row rfl _ _ gb112 38 #[.int .i64 t116, .slice (some ⟨go197,0,none⟩) x126001_1.length co201, .int .i64 t122] (0,0) _ rfl (by refine blk_put (cs:=#[.int .i64 t116, .slice (some ⟨go197,0,none⟩) x126001_1.length co201, .int .i64 0]) ?_ 2 _ rfl;refine blk_put (cs:=#[.int .i64 t116, .slice none 0 0, .int .i64 0]) ?_ 1 _ rfl;refine blk_put (cs:=#[.int .i64 0, .slice none 0 0, .int .i64 0]) ?_ 0 _ rfl;exact BK112.out) Try.underlying38 rfl (by kernel_rfl)) rfl ?_
           exact ⟨_,by rfl,by exact Kd.R_mono (Kd.R_far (p:=⟨gb112,2,none⟩) (Kd.R_far (p:=⟨gb112,1,none⟩) (Kd.R_far (p:=⟨gb112,0,none⟩) (Kd.R_types HO_126001.out BK112.out (by decide)) (fun _ hk => hk.2) (.int .i64 t116)) (fun _ hk => hk.2) (.slice (some ⟨go197,0,none⟩) x126001_1.length co201)) (fun _ hk => hk.2) (.int .i64 t122)) (fun _ hk => trivial),by repeat ((with_reducible first | exact HI0.out | refine IsS58.far ?_ NB0_112.out _)),by repeat ((with_reducible first | exact HB.out | refine below_set ?_ GE112.out)),by repeat ((with_reducible first | exact HK.out | refine keep_far ?_ GW112.out _))⟩
     ·rw [if_neg c39] at H
      exact absurd H (by simp)
    ·rw [if_neg c38] at H
     exact absurd H (by simp)

end Go.Proofs.Ytafdafmoiocjgaa.PFnCharges
