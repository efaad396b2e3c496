-- Written by a program of this session, over the kit's print (wip/xprint.py)
import Derived.Test.YtpelcaijjdgnoaaDoorPFnReadingsx0
import Derived.Test.YtpelcaijjdgnoaaDoorPFnReadingsx2
import Derived.Test.YtpelcaijjdgnoaaDoorPFnReadingsx3
namespace Go.Proofs.YtpelcaijjdgnoaaDoor.PFnReadings
open Go.RowKit Go.Proofs.YtpelcaijjdgnoaaDoorW.PrintWords Go.Proofs.YtpelcaijjdgnoaaDoorW.PrintLast Go.Proofs.YtpelcaijjdgnoaaDoorW.PrintMore
attribute [local go_sem] max2_int min2_int max_two min_two max_three min_three max_four min_four   -- for this text's walks alone
set_option linter.unusedVariables false
set_option linter.unusedSimpArgs false

/-! ### spec_l1Cur_readings: function 36 -/
theorem IsS51.grownX4 {w0 W : World} {g : Nat} {f0 : List Int} {f1 : Int} {f2 : Int} {W1 : World} {row : Option Nat} {W0 : World} (h0 : IsS51 w0 W0 g f0 f1 f2) (h : IsS51 w0 W g f0 f1 f2) (hw : W.grownBy W1 row) (hne : some g ≠ row) : IsS51 w0 W1 g f0 f1 f2:=IsS51.grown h hw hne
mutual
def spec_l1Cur_readings.l0 : Nat → List (S41) → Int → Int → List Int → Int → Int → Option ((List (S41)) × Int × Int)
 | 0,_,_,_,_,_,_ => none
 | k + 1,x3,x4,x5,x1000,x1001,x1002 => if x5 > 0 then ((spec_l1Cur_among.f x1000 x1001 x1002 (([(-200),(-185),(-180),(-175),(-160),(-180)] : List Int))).bind fun bt173 => ((spec_l1Cur_one.f x1000 bt173.2.1 bt173.2.2 3).bind fun bt176 => (if x3.length < 5864062014805 then ((spec_l1Cur_pick.f x1000 bt176.2.1 bt176.2.2 6).bind fun bt182 => (spec_l1Cur_readings.l0 k (x3 ++ [(⟨x4,bt173.1,!bt176.1⟩ : S41)]) (wrap64 ((wrap64 (x4 + 1)) + bt182.1)) (wrap64 (x5 - 1)) x1000 bt182.2.1 bt182.2.2)) else (none)))) else (if (x3.length : Int) = 0 then (some (x3,x1001,x1002)) else ((spec_l1Cur_pick.f x1000 x1001 x1002 (x3.length : Int)).bind fun bt185 => (if 0 ≤ bt185.1 then (if bt185.1 < (x3.length : Int) then ((spec_l1Cur_pick.f x1000 bt185.2.1 bt185.2.2 40).bind fun bt190 => (if bt190.1 = 0 then ((spec_l1Cur_among.f x1000 bt190.2.1 bt190.2.2 (([(-1),240,241,2] : List Int))).bind fun bt196 => (some ((x3.set (bt185.1 : Int).toNat (⟨bt196.1,(rd_T41 x3 bt185.1).f1,(rd_T41 x3 bt185.1).f2⟩ : S41)),bt196.2.1,bt196.2.2))) else (if bt190.1 = 1 then ((spec_l1Cur_among.f x1000 bt190.2.1 bt190.2.2 (([(-401),(-400),400,401] : List Int))).bind fun bt203 => (some ((x3.set (bt185.1 : Int).toNat (⟨(rd_T41 x3 bt185.1).f0,bt203.1,(rd_T41 x3 bt185.1).f2⟩ : S41)),bt203.2.1,bt203.2.2))) else (if bt190.1 = 2 then (spec_l1Cur_readings.l1 k x3 bt185.1 x1000 bt190.2.1 bt190.2.2 ((rd_T41 x3 bt185.1).f0) ((rd_T41 x3 bt185.1).f1) ((rd_T41 x3 bt185.1).f2)) else (some ((x3.set (bt185.1 : Int).toNat (⟨(rd_T41 x3 bt185.1).f0,(rd_T41 x3 bt185.1).f1,(rd_T41 x3 bt185.1).f2⟩ : S41)),bt190.2.1,bt190.2.2)))))) else (none)) else (none))))
def spec_l1Cur_readings.l1 : Nat → List (S41) → Int → List Int → Int → Int → Int → Int → Bool → Option ((List (S41)) × Int × Int)
 | 0,_,_,_,_,_,_,_,_ => none
 | k + 1,x3,x6,x1000,x1001,x1002,x190000,x190001,x190002 => (spec_l1Cur_pick.f x1000 x1001 x1002 2).bind fun bt207 => (if (x3.length : Int) < (wrap64 (20 + bt207.1)) then (if x3.length < 5864062014805 then (spec_l1Cur_readings.l1 k (x3 ++ [(⟨wrap64 (200 + (x3.length : Int)),0,false⟩ : S41)]) x6 x1000 bt207.2.1 bt207.2.2 x190000 x190001 x190002) else (none)) else (if 0 ≤ x6 then (if x6 < (x3.length : Int) then (some ((x3.set (x6 : Int).toNat (⟨x190000,x190001,x190002⟩ : S41)),bt207.2.1,bt207.2.2)) else (none)) else (none)))
end
def spec_l1Cur_readings.f (k : Nat) (s0_0 : List Int) (s0_1 : Int) (s0_2 : Int) : Option ((List (S41)) × Int × Int):=(spec_l1Cur_pick.f s0_0 s0_1 s0_2 6).bind fun bt164 => ((spec_l1Cur_pick.f s0_0 bt164.2.1 bt164.2.2 8).bind fun bt167 => (spec_l1Cur_readings.l0 k (([] : List (S41))) bt164.1 bt167.1 s0_0 bt167.2.1 bt167.2.2))
theorem spec_l1Cur_readings.mono_l : ∀ k,(∀ y0 y1 y2 y3 y4 y5,LeO (spec_l1Cur_readings.l0 k y0 y1 y2 y3 y4 y5) (spec_l1Cur_readings.l0 (k + 1) y0 y1 y2 y3 y4 y5)) ∧ (∀ y0 y1 y2 y3 y4 y5 y6 y7,LeO (spec_l1Cur_readings.l1 k y0 y1 y2 y3 y4 y5 y6 y7) (spec_l1Cur_readings.l1 (k + 1) y0 y1 y2 y3 y4 y5 y6 y7))
 | 0 => ⟨fun _ _ _ _ _ _ r h => by simp [spec_l1Cur_readings.l0] at h,fun _ _ _ _ _ _ _ _ r h => by simp [spec_l1Cur_readings.l1] at h⟩
 | k + 1 => by
  obtain ⟨ih0,ih1⟩ := spec_l1Cur_readings.mono_l k
  refine ⟨?_, ?_⟩
  ·intro y0 y1 y2 y3 y4 y5
   unfold spec_l1Cur_readings.l0
   repeat' first
   | (with_reducible exact ih0 _ _ _ _ _ _)
   | (with_reducible exact ih1 _ _ _ _ _ _ _ _)
   | (with_reducible exact LeO.refl _)
   | (with_reducible exact LeO.none _)
   | (with_reducible refine LeO.ite ?_ ?_)
   | (with_reducible refine LeO.bind ?_ (fun _ => ?_))
   | exact ih0 _ _ _ _ _ _
   | exact ih1 _ _ _ _ _ _ _ _
   | exact LeO.none _
   | refine LeO.ite ?_ ?_
   | refine LeO.bind ?_ (fun _ => ?_)
  ·intro y0 y1 y2 y3 y4 y5 y6 y7
   unfold spec_l1Cur_readings.l1
   repeat' first
   | (with_reducible exact ih0 _ _ _ _ _ _)
   | (with_reducible exact ih1 _ _ _ _ _ _ _ _)
   | (with_reducible exact LeO.refl _)
   | (with_reducible exact LeO.none _)
   | (with_reducible refine LeO.ite ?_ ?_)
   | (with_reducible refine LeO.bind ?_ (fun _ => ?_))
   | exact ih0 _ _ _ _ _ _
   | exact ih1 _ _ _ _ _ _ _ _
   | exact LeO.none _
   | refine LeO.ite ?_ ?_
   | refine LeO.bind ?_ (fun _ => ?_)
theorem spec_l1Cur_readings.mono : ∀ a0 a1 a2 k,LeO (spec_l1Cur_readings.f k a0 a1 a2) (spec_l1Cur_readings.f (k + 1) a0 a1 a2):=by
 intro a0 a1 a2 k
 obtain ⟨ih0,ih1⟩ := spec_l1Cur_readings.mono_l k
 unfold spec_l1Cur_readings.f
 repeat' first
   | (with_reducible exact ih0 _ _ _ _ _ _)
   | (with_reducible exact ih1 _ _ _ _ _ _ _ _)
   | (with_reducible exact LeO.refl _)
   | (with_reducible exact LeO.none _)
   | (with_reducible refine LeO.ite ?_ ?_)
   | (with_reducible refine LeO.bind ?_ (fun _ => ?_))
   | exact ih0 _ _ _ _ _ _
   | exact ih1 _ _ _ _ _ _ _ _
   | exact LeO.none _
   | refine LeO.ite ?_ ?_
   | refine LeO.bind ?_ (fun _ => ?_)
set_option maxHeartbeats 8000000 in
set_option maxRecDepth 100000 in
theorem spec_l1Cur_readings.calls (k : Nat) (g : Nat) (s0_0 : List Int) (s0_1 : Int) (s0_2 : Int) (r1 : List (S41)) (r2 : Int) (r3 : Int) (w0 w : World) (hI : IsS51 w0 w g s0_0 s0_1 s0_2) (hB : Below w0.heap.size w0 w) (h : spec_l1Cur_readings.f k s0_0 s0_1 s0_2 = some (r1,r2,r3)) :
  Calls Tryd.prog 36 #[.pointer (some ⟨g,0,none⟩)] w fun e w' => ∃ v0_ : Value,e = .returned (v0_) ∧ Kd.R k41 41 w' w.heap.size (fun _ => True) v0_ r1 ∧ IsS51 w0 w' g s0_0 r2 r3 ∧ Below w0.heap.size w0 w' ∧ KeepBut w w' g none:=by
 have hu41:=Tryd.underlying41
 have HI0:=Aside0.mk hI
 have HK:=Aside0.mk (KeepBut.refl w g none)
 have HL:=Aside0.mk hB.size
 clear hI
 have HW0:=Aside0.mk hB.size
 have HB:=Aside0.mk hB
 clear hB
 have H : ((spec_l1Cur_pick.f s0_0 s0_1 s0_2 6).bind fun bt164 => ((spec_l1Cur_pick.f s0_0 bt164.2.1 bt164.2.2 8).bind fun bt167 => (spec_l1Cur_readings.l0 k (([] : List (S41))) bt164.1 bt167.1 s0_0 bt167.2.1 bt167.2.2))) = some (r1,r2,r3):=h
 clear h
 obtain ⟨y161,hy161⟩ : ∃ y_ : List (S41),y_ = (([] : List (S41))):=⟨_,rfl⟩
 replace H : ((spec_l1Cur_pick.f s0_0 s0_1 s0_2 6).bind fun bt164 => ((spec_l1Cur_pick.f s0_0 bt164.2.1 bt164.2.2 8).bind fun bt167 => (spec_l1Cur_readings.l0 k y161 bt164.1 bt167.1 s0_0 bt167.2.1 bt167.2.2))) = some (r1,r2,r3):=by (rw [hy161];with_reducible exact H)
 have Ny161:=Aside0.mk hy161
 clear hy161
 replace H:=Option.bind_eq_some_iff.mp H
 obtain ⟨⟨t164,t165,t166⟩,A20,H⟩ := H
 replace H : ((spec_l1Cur_pick.f s0_0 t165 t166 8).bind fun bt167 => (spec_l1Cur_readings.l0 k y161 t164 bt167.1 s0_0 bt167.2.1 bt167.2.2)) = some (r1,r2,r3):=H
 have A2:=Aside0.mk A20
 clear A20
 replace H:=Option.bind_eq_some_iff.mp H
 obtain ⟨⟨t167,t168,t169⟩,A30,H⟩ := H
 replace H : (spec_l1Cur_readings.l0 k y161 t164 t167 s0_0 t168 t169) = some (r1,r2,r3):=H
 have A3:=Aside0.mk A30
 clear A30
 have H':=Aside0.mk H
 clear H
 go_enter Tryd.func36,Tryd.ntmps36
 go_wp2_with (first | ((with_reducible refine gate_dst (N:=8) rfl ?_);refine Kd.R_lit k41 _ 41 ?hg (N:=8) ?hd (xs:=([] : List (S41))) (inner := []) (ok:=fun _ => True) (okp:=fun _ => True) ?hr ?hp (fun _ hk => hk) trivial (Below.refl _ _) (Nat.le_refl _) (by simp) ?_;(case hd => rfl);(case hg => rfl);(case hr => (go_simp;done));(case hp => exact (Reps.none _ _));intro v162 w4 ho5 hb hg_ hnew_;clear hg_ hnew_;(rw [← Ny161.out] at ho5);have n0_:=Aside0.mk (Kd.R_lower ho5 (keep_size (w:=w) (g:=g) (row:=none) (by exact HK.out)));have n1_:=Aside0.mk (IsS51.below (by exact HI0.out) hb);have n2_:=Aside0.mk (KeepBut.trans (by exact HK.out) (KeepBut.of_below hb g none) (.inl rfl));have n3_:=Aside0.mk (below_step (by exact HB.out) hb);clear HI0;clear HK;clear HB;have HO163:=n0_;have HI0:=n1_;have HK:=n2_;have HB:=n3_;clear n0_ n1_ n2_ n3_;clear hb ho5) | ((with_reducible refine gate_callee (f:=28) rfl ?_);refine goesL_ (some 10) rfl rfl Tryd.func28 (by kernel_rfl) rfl #[.pointer (some ⟨g,0,none⟩), .int .i64 6] rfl (by (try simp only [List.map_toArray,List.map_cons,List.map_nil]);rfl) ?_;(with_reducible refine (spec_l1Cur_pick.calls g s0_0 s0_1 s0_2 6 t164 t165 t166 w0 _ ?side1 ?side2 A2.out).mono ?_);(case side1 => exact HI0.out);(case side2 => exact HB.out);rintro e w6 ⟨rfl,hi,hb,hk⟩;refine ⟨_,rfl, ?_⟩;have n0_:=Aside0.mk (Kd.R_mono (Kd.R_keep (IsS51.apart (show IsS51 w0 _ g s0_0 s0_1 s0_2 from by exact HI0.out) (by exact HO163.out) (by decide)) hk (fun _ h => h.2)) (fun _ h => h.1));have n1_:=Aside0.mk (KeepBut.trans (by exact HK.out) hk (.inl rfl));have n2_:=Aside0.mk (hb);have n3_:=Aside0.mk (hi);clear HO163;clear HK;clear HB;clear HI0;have HO163:=n0_;have HK:=n1_;have HB:=n2_;have HI0:=n3_;clear n0_ n1_ n2_ n3_;(try clear hb);(try clear hk);(try clear hi)) | ((with_reducible refine gate_callee (f:=28) rfl ?_);refine goesL_ (some 12) rfl rfl Tryd.func28 (by kernel_rfl) rfl #[.pointer (some ⟨g,0,none⟩), .int .i64 8] rfl (by (try simp only [List.map_toArray,List.map_cons,List.map_nil]);rfl) ?_;(with_reducible refine (spec_l1Cur_pick.calls g s0_0 t165 t166 8 t167 t168 t169 w0 _ ?side1 ?side2 A3.out).mono ?_);(case side1 => exact HI0.out);(case side2 => exact HB.out);rintro e w7 ⟨rfl,hi,hb,hk⟩;refine ⟨_,rfl, ?_⟩;have n0_:=Aside0.mk (Kd.R_mono (Kd.R_keep (IsS51.apart (show IsS51 w0 _ g s0_0 t165 t166 from by exact HI0.out) (by exact HO163.out) (by decide)) hk (fun _ h => h.2)) (fun _ h => h.1));have n1_:=Aside0.mk (KeepBut.trans (by exact HK.out) hk (.inl rfl));have n2_:=Aside0.mk (hb);have n3_:=Aside0.mk (hi);clear HO163;clear HK;clear HB;clear HI0;have HO163:=n0_;have HK:=n1_;have HB:=n2_;have HI0:=n3_;clear n0_ n1_ n2_ n3_;(try clear hb);(try clear hk);(try clear hi)))
 go_loopg [3,4,5] k (fun kq v3 v4 v5 w' => ∃ (x3_1 : List (S41)) (x4_1 : Int) (x5_1 : Int) (x1001_1 : Int) (x1002_1 : Int),v4 = .int .i64 x4_1 ∧ v5 = .int .i64 x5_1 ∧ Aside0 (spec_l1Cur_readings.l0 kq x3_1 x4_1 x5_1 s0_0 x1001_1 x1002_1 = some (r1,r2,r3)) ∧ Aside0 (kq ≤ k) ∧ Aside0 (Kd.R k41 41 w' w.heap.size (fun _ => True) v3 x3_1) ∧ Aside0 (IsS51 w0 w' g s0_0 x1001_1 x1002_1) ∧ Aside0 (KeepBut w w' g none) ∧ Aside0 (Below w0.heap.size w0 w'))
 case atStart => exact ⟨(y161),(t164),(t167),(t168),(t169),(by rfl),(by rfl),H',⟨Nat.le_refl _⟩,⟨by exact HO163.out⟩,⟨by exact HI0.out⟩,⟨by exact HK.out⟩,⟨by exact HB.out⟩⟩
 case round =>
  clear H'
  try clear c2
  try clear p2
  try clear c3
  obtain ⟨x3_1,x4_1,x5_1,x1001_1,x1002_1,rfl,rfl,HA,HK1,HO_3,HI0,HK,HB⟩ := hrel
  cases gk with
  | zero => exact absurd HA.out (by simp [spec_l1Cur_readings.l0])
  | succ k1 =>
   have H:=HA.out
   clear HA
   simp only [spec_l1Cur_readings.l0] at H
   by_cases c8 : x5_1 > 0
   ·rw [if_pos c8] at H
    have c8b0 : decide (0 < x5_1) = true:=decide_eq_true c8
    clear c8
    obtain ⟨y170,hy170⟩ : ∃ y_ : List Int,y_ = (([(-200),(-185),(-180),(-175),(-160),(-180)] : List Int)):=⟨_,rfl⟩
    replace H : ((spec_l1Cur_among.f s0_0 x1001_1 x1002_1 y170).bind fun bt173 => ((spec_l1Cur_one.f s0_0 bt173.2.1 bt173.2.2 3).bind fun bt176 => (if x3_1.length < 5864062014805 then ((spec_l1Cur_pick.f s0_0 bt176.2.1 bt176.2.2 6).bind fun bt182 => (spec_l1Cur_readings.l0 k1 (x3_1 ++ [(⟨x4_1,bt173.1,!bt176.1⟩ : S41)]) (wrap64 ((wrap64 (x4_1 + 1)) + bt182.1)) (wrap64 (x5_1 - 1)) s0_0 bt182.2.1 bt182.2.2)) else (none)))) = some (r1,r2,r3):=by (rw [hy170];with_reducible exact H)
    have Ny170:=Aside0.mk hy170
    clear hy170
    replace H:=Option.bind_eq_some_iff.mp H
    obtain ⟨⟨t173,t174,t175⟩,A90,H⟩ := H
    replace H : ((spec_l1Cur_one.f s0_0 t174 t175 3).bind fun bt176 => (if x3_1.length < 5864062014805 then ((spec_l1Cur_pick.f s0_0 bt176.2.1 bt176.2.2 6).bind fun bt182 => (spec_l1Cur_readings.l0 k1 (x3_1 ++ [(⟨x4_1,t173,!bt176.1⟩ : S41)]) (wrap64 ((wrap64 (x4_1 + 1)) + bt182.1)) (wrap64 (x5_1 - 1)) s0_0 bt182.2.1 bt182.2.2)) else (none))) = some (r1,r2,r3):=H
    have A9:=Aside0.mk A90
    clear A90
    replace H:=Option.bind_eq_some_iff.mp H
    obtain ⟨⟨t176,t177,t178⟩,A100,H⟩ := H
    replace H : (if x3_1.length < 5864062014805 then ((spec_l1Cur_pick.f s0_0 t177 t178 6).bind fun bt182 => (spec_l1Cur_readings.l0 k1 (x3_1 ++ [(⟨x4_1,t173,!t176⟩ : S41)]) (wrap64 ((wrap64 (x4_1 + 1)) + bt182.1)) (wrap64 (x5_1 - 1)) s0_0 bt182.2.1 bt182.2.2)) else (none)) = some (r1,r2,r3):=H
    have A10:=Aside0.mk A100
    clear A100
    by_cases c11 : x3_1.length < 5864062014805
    ·rw [if_pos c11] at H
     have LMc11:=Aside0.mk c11
     clear c11
     obtain ⟨y179,hy179⟩ : ∃ y_ : List (S41),y_ = (x3_1 ++ [(⟨x4_1,t173,!t176⟩ : S41)]):=⟨_,rfl⟩
     replace H : ((spec_l1Cur_pick.f s0_0 t177 t178 6).bind fun bt182 => (spec_l1Cur_readings.l0 k1 y179 (wrap64 ((wrap64 (x4_1 + 1)) + bt182.1)) (wrap64 (x5_1 - 1)) s0_0 bt182.2.1 bt182.2.2)) = some (r1,r2,r3):=by (rw [hy179];with_reducible exact H)
     have Ny179:=Aside0.mk hy179
     clear hy179
     replace H:=Option.bind_eq_some_iff.mp H
     obtain ⟨⟨t182,t183,t184⟩,A120,H⟩ := H
     replace H : (spec_l1Cur_readings.l0 k1 y179 (wrap64 ((wrap64 (x4_1 + 1)) + t182)) (wrap64 (x5_1 - 1)) s0_0 t183 t184) = some (r1,r2,r3):=H
     have A12:=Aside0.mk A120
     clear A120
     have H':=Aside0.mk H
     clear H
     go_wp2_with (first | ((with_reducible refine gate_dst (N:=20) rfl ?_);refine Kd.R_lit (Kd.int .i64) _ 3 ?hg (N:=20) ?hd (xs:=([(-200),(-185),(-180),(-175),(-160),(-180)] : List Int)) (inner := [.int .i64 (-200), .int .i64 (-185), .int .i64 (-180), .int .i64 (-175), .int .i64 (-160), .int .i64 (-180)]) (ok:=fun _ => True) (okp:=fun _ => True) ?hr ?hp (fun _ hk => hk) trivial (Below.refl _ _) (Nat.le_refl _) (by simp) ?_;(case hd => rfl);(case hg => rfl);(case hr => (go_simp;done));(case hp => exact (Reps.one (show Kd.M (Kd.int .i64) _ _ _ (-200) [.int .i64 (-200)] from rfl) (Reps.one (show Kd.M (Kd.int .i64) _ _ _ (-185) [.int .i64 (-185)] from rfl) (Reps.one (show Kd.M (Kd.int .i64) _ _ _ (-180) [.int .i64 (-180)] from rfl) (Reps.one (show Kd.M (Kd.int .i64) _ _ _ (-175) [.int .i64 (-175)] from rfl) (Reps.one (show Kd.M (Kd.int .i64) _ _ _ (-160) [.int .i64 (-160)] from rfl) (Reps.one (show Kd.M (Kd.int .i64) _ _ _ (-180) [.int .i64 (-180)] from rfl) (Reps.none _ _))))))));intro v171 w13 ho14 hb hg_ hnew_;clear hg_ hnew_;(rw [← Ny170.out] at ho14);have n0_:=Aside0.mk (Kd.R_below (by exact HO_3.out) hb);have n1_:=Aside0.mk (Kd.R_lower ho14 (keep_size (w:=w) (g:=g) (row:=none) (by exact HK.out)));have n2_:=Aside0.mk (IsS51.below (by exact HI0.out) hb);have n3_:=Aside0.mk (KeepBut.trans (by exact HK.out) (KeepBut.of_below hb g none) (.inl rfl));have n4_:=Aside0.mk (below_step (by exact HB.out) hb);clear HO_3;clear HI0;clear HK;clear HB;have HO_3:=n0_;have HO172:=n1_;have HI0:=n2_;have HK:=n3_;have HB:=n4_;clear n0_ n1_ n2_ n3_ n4_;clear hb ho14;obtain ⟨Ao15,co15,eo15⟩ := Kd.R_slice HO172.out;subst eo15) | ((with_reducible refine gate_callee (f:=23) rfl ?_);refine goesL_ (some 21) rfl rfl Tryd.func23 (by kernel_rfl) rfl #[.pointer (some ⟨g,0,none⟩), .slice Ao15 y170.length co15] rfl (by (try simp only [List.map_toArray,List.map_cons,List.map_nil]);rfl) ?_;(with_reducible refine (spec_l1Cur_among.calls g s0_0 x1001_1 x1002_1 _ _ y170 t173 t174 t175 w0 _ ?side1 ?side2 ?side3 ?side4 ?side5 A9.out).mono ?_);(case side1 => exact HI0.out);(case side2 => exact HB.out);(case side3 => repeat (exact (Kd.R_reads' HO172.out).2.2));(case side4 => exact (Kd.R_reads' HO172.out).2.1);(case side5 => exact far_slice (IsS51.own_ne HI0.out HO172.out (by decide)));rintro e w16 ⟨rfl,hi,hb,hk⟩;refine ⟨_,rfl, ?_⟩;have n0_:=Aside0.mk (Kd.R_mono (Kd.R_keep (IsS51.apart (show IsS51 w0 _ g s0_0 x1001_1 x1002_1 from by exact HI0.out) (by exact HO_3.out) (by decide)) hk (fun _ h => h.2)) (fun _ h => h.1));have n1_:=Aside0.mk (Kd.R_mono (Kd.R_keep (IsS51.apart (show IsS51 w0 _ g s0_0 x1001_1 x1002_1 from by exact HI0.out) (by exact HO172.out) (by decide)) hk (fun _ h => h.2)) (fun _ h => h.1));have n2_:=Aside0.mk (KeepBut.trans (by exact HK.out) hk (.inl rfl));have n3_:=Aside0.mk (hb);have n4_:=Aside0.mk (hi);clear HO_3;clear HO172;clear HK;clear HB;clear HI0;have HO_3:=n0_;have HO172:=n1_;have HK:=n2_;have HB:=n3_;have HI0:=n4_;clear n0_ n1_ n2_ n3_ n4_;(try clear hb);(try clear hk);(try clear hi)) | ((with_reducible refine gate_callee (f:=29) rfl ?_);refine goesL_ (some 23) rfl rfl Tryd.func29 (by kernel_rfl) rfl #[.pointer (some ⟨g,0,none⟩), .int .i64 3] rfl (by (try simp only [List.map_toArray,List.map_cons,List.map_nil]);rfl) ?_;(with_reducible refine (spec_l1Cur_one.calls g s0_0 t174 t175 3 t176 t177 t178 w0 _ ?side1 ?side2 A10.out).mono ?_);(case side1 => exact HI0.out);(case side2 => exact HB.out);rintro e w17 ⟨rfl,hi,hb,hk⟩;refine ⟨_,rfl, ?_⟩;have n0_:=Aside0.mk (Kd.R_mono (Kd.R_keep (IsS51.apart (show IsS51 w0 _ g s0_0 t174 t175 from by exact HI0.out) (by exact HO_3.out) (by decide)) hk (fun _ h => h.2)) (fun _ h => h.1));have n1_:=Aside0.mk (Kd.R_mono (Kd.R_keep (IsS51.apart (show IsS51 w0 _ g s0_0 t174 t175 from by exact HI0.out) (by exact HO172.out) (by decide)) hk (fun _ h => h.2)) (fun _ h => h.1));have n2_:=Aside0.mk (KeepBut.trans (by exact HK.out) hk (.inl rfl));have n3_:=Aside0.mk (hb);have n4_:=Aside0.mk (hi);clear HO_3;clear HO172;clear HK;clear HB;clear HI0;have HO_3:=n0_;have HO172:=n1_;have HK:=n2_;have HB:=n3_;have HI0:=n4_;clear n0_ n1_ n2_ n3_ n4_;(try clear hb);(try clear hk);(try clear hi)) | ((with_reducible refine gate_builtin (b := .append) (xs:=#[.tmp 17, .tmp 26]) rfl ?_);at_builtin;refine Kd.R_append k41 w.heap.size rfl (.tmp 17) (.tmp 26) 30 41 (.agg #[(.int .i64 0),(.int .i64 0),(.bool false)]) 24 rfl Tryd.underlying30 info41 rfl (by decide) (by omega) u3 x3_1 (⟨x4_1,t173,!t176⟩ : S41) [.int .i64 x4_1, .int .i64 t173, .bool (!t176)] (fun _ => True) (fun _ => False) rfl rfl ?aP (fun _ hk => hk.elim) ?aF ?aO (Below.refl _ _) ?aS ?aL ?_;(case aP => exact k41_mkM _ _ _ (⟨x4_1,t173,!t176⟩ : S41));(case aF => exact (fun _ _ => trivial));(case aO => exact (by exact HO_3.out));(case aS => exact (keep_size (w:=w) (g:=g) (row:=none) (by exact HK.out)));(case aL => have:=LMc11.out;omega);intro v180 w18 ho hb hg hat;rw [← Ny179.out] at ho;have n0_:=Aside0.mk (IsS51.grownX4 HI0.out (by exact HI0.out) hg (IsS51.own_ne HI0.out HO_3.out (by decide)));have n1_:=Aside0.mk (Kd.R_over' (by exact HO172.out) (Kd.R_typed (by exact HO_3.out)) (by decide) hg);have n2_:=Aside0.mk (below_weaken (by exact HB.out) HL.out hb);have n3_:=Aside0.mk (KeepBut.trans (by exact HK.out) (KeepBut.of_grown hg g) (Kd.R_base2 HO_3.out));have n4_:=Aside0.mk (ho);clear HI0;clear HO172;clear HB;clear HK;clear HO_3;have HI0:=n0_;have HO172:=n1_;have HB:=n2_;have HK:=n3_;have HO181:=n4_;clear n0_ n1_ n2_ n3_ n4_;clear ho hb hg hat) | ((with_reducible refine gate_callee (f:=28) rfl ?_);refine goesL_ (some 31) rfl rfl Tryd.func28 (by kernel_rfl) rfl #[.pointer (some ⟨g,0,none⟩), .int .i64 6] rfl (by (try simp only [List.map_toArray,List.map_cons,List.map_nil]);rfl) ?_;(with_reducible refine (spec_l1Cur_pick.calls g s0_0 t177 t178 6 t182 t183 t184 w0 _ ?side1 ?side2 A12.out).mono ?_);(case side1 => exact HI0.out);(case side2 => exact HB.out);rintro e w19 ⟨rfl,hi,hb,hk⟩;refine ⟨_,rfl, ?_⟩;have n0_:=Aside0.mk (Kd.R_mono (Kd.R_keep (IsS51.apart (show IsS51 w0 _ g s0_0 t177 t178 from by exact HI0.out) (by exact HO172.out) (by decide)) hk (fun _ h => h.2)) (fun _ h => h.1));have n1_:=Aside0.mk (Kd.R_mono (Kd.R_keep (IsS51.apart (show IsS51 w0 _ g s0_0 t177 t178 from by exact HI0.out) (by exact HO181.out) (by decide)) hk (fun _ h => h.2)) (fun _ h => h.1));have n2_:=Aside0.mk (KeepBut.trans (by exact HK.out) hk (.inl rfl));have n3_:=Aside0.mk (hb);have n4_:=Aside0.mk (hi);clear HO172;clear HO181;clear HK;clear HB;clear HI0;have HO172:=n0_;have HO181:=n1_;have HK:=n2_;have HB:=n3_;have HI0:=n4_;clear n0_ n1_ n2_ n3_ n4_;(try clear hb);(try clear hk);(try clear hi)))
     go_roundg k1
     case measure => have:=HK1.out;omega
     case rel => exact ⟨(y179),(wrap64 ((wrap64 (x4_1 + 1)) + t182)),(wrap64 (x5_1 - 1)),(t183),(t184),(by rfl),(by rfl),H',⟨by have:=HK1.out;omega⟩,⟨by exact HO181.out⟩,⟨by exact HI0.out⟩,⟨by exact HK.out⟩,⟨by exact HB.out⟩⟩
    ·rw [if_neg c11] at H
     exact absurd H (by simp)
   ·rw [if_neg c8] at H
    have c8b0 : decide (0 < x5_1) = false:=decide_eq_false c8
    clear c8
    by_cases c20 : (x3_1.length : Int) = 0
    ·rw [if_pos c20] at H
     have c20b0 : ((x3_1.length : Int) == 0) = true:=beq_iff_eq.mpr c20
     have c20b1 : ((x3_1.length : Int) != 0) = false:=bne_eq_false_iff_eq.mpr c20
     clear c20
     simp only [Option.some.injEq,Prod.mk.injEq] at H
     obtain ⟨rfl,rfl,rfl⟩ := H
     obtain ⟨Ao21,co21,eo21⟩ := Kd.R_slice HO_3.out
     subst eo21
     go_wp2
     go_ret
     exact ⟨_,by rfl,by exact HO_3.out,by exact HI0.out,by exact HB.out,by exact HK.out⟩
    ·rw [if_neg c20] at H
     have c20b0 : ((x3_1.length : Int) == 0) = false:=beq_eq_false_iff_ne.mpr c20
     have c20b1 : ((x3_1.length : Int) != 0) = true:=bne_iff_ne.mpr c20
     have c20b2 : ¬ (x3_1 = []):=fun h_ => c20 (by rw [h_];rfl)
     replace H:=Option.bind_eq_some_iff.mp H
     obtain ⟨⟨t185,t186,t187⟩,A220,H⟩ := H
     replace H : (if 0 ≤ t185 then (if t185 < (x3_1.length : Int) then ((spec_l1Cur_pick.f s0_0 t186 t187 40).bind fun bt190 => (if bt190.1 = 0 then ((spec_l1Cur_among.f s0_0 bt190.2.1 bt190.2.2 (([(-1),240,241,2] : List Int))).bind fun bt196 => (some ((x3_1.set (t185 : Int).toNat (⟨bt196.1,(rd_T41 x3_1 t185).f1,(rd_T41 x3_1 t185).f2⟩ : S41)),bt196.2.1,bt196.2.2))) else (if bt190.1 = 1 then ((spec_l1Cur_among.f s0_0 bt190.2.1 bt190.2.2 (([(-401),(-400),400,401] : List Int))).bind fun bt203 => (some ((x3_1.set (t185 : Int).toNat (⟨(rd_T41 x3_1 t185).f0,bt203.1,(rd_T41 x3_1 t185).f2⟩ : S41)),bt203.2.1,bt203.2.2))) else (if bt190.1 = 2 then (spec_l1Cur_readings.l1 k1 x3_1 t185 s0_0 bt190.2.1 bt190.2.2 ((rd_T41 x3_1 t185).f0) ((rd_T41 x3_1 t185).f1) ((rd_T41 x3_1 t185).f2)) else (some ((x3_1.set (t185 : Int).toNat (⟨(rd_T41 x3_1 t185).f0,(rd_T41 x3_1 t185).f1,(rd_T41 x3_1 t185).f2⟩ : S41)),bt190.2.1,bt190.2.2)))))) else (none)) else (none)) = some (r1,r2,r3):=H
     have A22:=Aside0.mk A220
     clear A220
     by_cases c23 : 0 ≤ t185
     ·rw [if_pos c23] at H
      have c23b0 : decide (0 ≤ t185) = true:=decide_eq_true c23
      clear c23
      by_cases c24 : t185 < (x3_1.length : Int)
      ·rw [if_pos c24] at H
       have c24b0 : decide (t185 < (x3_1.length : Int)) = true:=decide_eq_true c24
       clear c24
       replace H:=Option.bind_eq_some_iff.mp H
       obtain ⟨⟨t190,t191,t192⟩,A250,H⟩ := H
       replace H : (if t190 = 0 then ((spec_l1Cur_among.f s0_0 t191 t192 (([(-1),240,241,2] : List Int))).bind fun bt196 => (some ((x3_1.set (t185 : Int).toNat (⟨bt196.1,(rd_T41 x3_1 t185).f1,(rd_T41 x3_1 t185).f2⟩ : S41)),bt196.2.1,bt196.2.2))) else (if t190 = 1 then ((spec_l1Cur_among.f s0_0 t191 t192 (([(-401),(-400),400,401] : List Int))).bind fun bt203 => (some ((x3_1.set (t185 : Int).toNat (⟨(rd_T41 x3_1 t185).f0,bt203.1,(rd_T41 x3_1 t185).f2⟩ : S41)),bt203.2.1,bt203.2.2))) else (if t190 = 2 then (spec_l1Cur_readings.l1 k1 x3_1 t185 s0_0 t191 t192 ((rd_T41 x3_1 t185).f0) ((rd_T41 x3_1 t185).f1) ((rd_T41 x3_1 t185).f2)) else (some ((x3_1.set (t185 : Int).toNat (⟨(rd_T41 x3_1 t185).f0,(rd_T41 x3_1 t185).f1,(rd_T41 x3_1 t185).f2⟩ : S41)),t191,t192))))) = some (r1,r2,r3):=H
       have A25:=Aside0.mk A250
       clear A250
       by_cases c26 : t190 = 0
       ·rw [if_pos c26] at H
        have c26b0 : (t190 == 0) = true:=beq_iff_eq.mpr c26
        have c26b1 : (t190 != 0) = false:=bne_eq_false_iff_eq.mpr c26
        clear c26
        obtain ⟨y193,hy193⟩ : ∃ y_ : List Int,y_ = (([(-1),240,241,2] : List Int)):=⟨_,rfl⟩
        replace H : ((spec_l1Cur_among.f s0_0 t191 t192 y193).bind fun bt196 => (some ((x3_1.set (t185 : Int).toNat (⟨bt196.1,(rd_T41 x3_1 t185).f1,(rd_T41 x3_1 t185).f2⟩ : S41)),bt196.2.1,bt196.2.2))) = some (r1,r2,r3):=by (rw [hy193];with_reducible exact H)
        have Ny193:=Aside0.mk hy193
        clear hy193
        replace H:=Option.bind_eq_some_iff.mp H
        obtain ⟨⟨t196,t197,t198⟩,A270,H⟩ := H
        replace H : (some ((x3_1.set (t185 : Int).toNat (⟨t196,(rd_T41 x3_1 t185).f1,(rd_T41 x3_1 t185).f2⟩ : S41)),t197,t198)) = some (r1,r2,r3):=H
        have A27:=Aside0.mk A270
        clear A270
        obtain ⟨y199,hy199⟩ : ∃ y_ : List (S41),y_ = (x3_1.set (t185 : Int).toNat (⟨t196,(rd_T41 x3_1 t185).f1,(rd_T41 x3_1 t185).f2⟩ : S41)):=⟨_,rfl⟩
        replace H : (some (y199,t197,t198)) = some (r1,r2,r3):=by (rw [hy199];with_reducible exact H)
        have Ny199:=Aside0.mk hy199
        clear hy199
        simp only [Option.some.injEq,Prod.mk.injEq] at H
        obtain ⟨rfl,rfl,rfl⟩ := H
        obtain ⟨Ao29,co29,eo29⟩ := Kd.R_slice HO_3.out
        subst eo29
        go_wp2_with (first | ((with_reducible refine gate_callee (f:=28) rfl ?_);refine goesL_ (some 40) rfl rfl Tryd.func28 (by kernel_rfl) rfl #[.pointer (some ⟨g,0,none⟩), .int .i64 (x3_1.length : Int)] rfl (by (try simp only [List.map_toArray,List.map_cons,List.map_nil]);rfl) ?_;(with_reducible refine (spec_l1Cur_pick.calls g s0_0 x1001_1 x1002_1 (x3_1.length : Int) t185 t186 t187 w0 _ ?side1 ?side2 A22.out).mono ?_);(case side1 => exact HI0.out);(case side2 => exact HB.out);rintro e w30 ⟨rfl,hi,hb,hk⟩;refine ⟨_,rfl, ?_⟩;have n0_:=Aside0.mk (Kd.R_mono (Kd.R_keep (IsS51.apart (show IsS51 w0 _ g s0_0 x1001_1 x1002_1 from by exact HI0.out) (by exact HO_3.out) (by decide)) hk (fun _ h => h.2)) (fun _ h => h.1));have n1_:=Aside0.mk (KeepBut.trans (by exact HK.out) hk (.inl rfl));have n2_:=Aside0.mk (hb);have n3_:=Aside0.mk (hi);clear HO_3;clear HK;clear HB;clear HI0;have HO_3:=n0_;have HK:=n1_;have HB:=n2_;have HI0:=n3_;clear n0_ n1_ n2_ n3_;(try clear hb);(try clear hk);(try clear hi);have p188 : 0 ≤ (t185 : Int):=of_decide_eq_true (by (with_reducible assumption));have q188 : t185 < (x3_1.length : Int):=of_decide_eq_true (by (with_reducible assumption));obtain ⟨ad188,e188,hx188_0,hx188_1,hx188_2⟩ := at_T41 (Kd.R_reads' HO_3.out).2.2 t185 p188 q188;cases e188;replace p188:=eq_true p188;replace q188:=eq_true q188) | ((with_reducible refine gate_dst (N:=7) rfl ?_);refine box_event ?hg (N:=7) ?hd (cs:=#[.int .i64 0, .int .i64 0, .bool false]) (t:=41) ?hr ?_;(case hd => rfl);(case hg => rfl);(case hr => (go_simp;done));intro gb189 hg w31 hbox hb;have n0_:=Aside0.mk (Kd.R_below (Kd.R_elderB (by exact HO_3.out) gb189 (Nat.le_of_eq hg.symm)) hb);have n1_:=Aside0.mk (IsS51.below (by exact HI0.out) hb);have n2_:=Aside0.mk (KeepBut.trans (by exact HK.out) (KeepBut.of_below hb g none) (.inl rfl));have n3_:=Aside0.mk (below_step (by exact HB.out) hb);have n4_:=Aside0.mk (hbox);have n5_:=Aside0.mk ((by rw [hg];exact (keep_size (w:=w) (g:=g) (row:=none) (by exact HK.out)) : w.heap.size ≤ gb189));have n6_:=Aside0.mk ((Nat.le_trans HW0.out (by rw [hg];exact (keep_size (w:=w) (g:=g) (row:=none) (by exact HK.out)) : w.heap.size ≤ gb189) : w0.heap.size ≤ gb189));have n7_:=Aside0.mk ((by rw [hg];exact Nat.ne_of_lt (IsS51.lt (show IsS51 w0 _ g s0_0 t186 t187 from by exact HI0.out)) : g ≠ gb189));have n8_:=Aside0.mk ((by rw [hg];exact Nat.ne_of_gt (IsS51.lt (show IsS51 w0 _ g s0_0 t186 t187 from by exact HI0.out)) : gb189 ≠ g));clear HO_3;clear HI0;clear HK;clear HB;have HO_3:=n0_;have HI0:=n1_;have HK:=n2_;have HB:=n3_;have BK189:=n4_;have GW189:=n5_;have GE189:=n6_;have NB0_189:=n7_;have NB189_0:=n8_;clear n0_ n1_ n2_ n3_ n4_ n5_ n6_ n7_ n8_;clear hb hbox hg;have hnb32:=NB189_0.out;have hnc32:=NB0_189.out;have hcz33_0 : w31.cell? ⟨gb189,0,none⟩ = some (.int .i64 0):=(blk_cell BK189.out 0).trans rfl;have hcz33_1 : w31.cell? ⟨gb189,1,none⟩ = some (.int .i64 0):=(blk_cell BK189.out 1).trans rfl;have hcz33_2 : w31.cell? ⟨gb189,2,none⟩ = some (.bool false):=(blk_cell BK189.out 2).trans rfl;have hfz33_0:=blk_frozen BK189.out 0;have hfz33_1:=blk_frozen BK189.out 1;have hfz33_2:=blk_frozen BK189.out 2) | ((with_reducible refine gate_callee (f:=28) rfl ?_);refine goesL_ (some 46) rfl rfl Tryd.func28 (by kernel_rfl) rfl #[.pointer (some ⟨g,0,none⟩), .int .i64 40] rfl (by (try simp only [List.map_toArray,List.map_cons,List.map_nil]);rfl) ?_;(with_reducible refine (spec_l1Cur_pick.calls g s0_0 t186 t187 40 t190 t191 t192 w0 _ ?side1 ?side2 A25.out).mono ?_);(case side1 => repeat ((with_reducible first | exact HI0.out | refine IsS51.far ?_ NB0_189.out _)));(case side2 => repeat ((with_reducible first | exact HB.out | refine below_set ?_ GE189.out)));rintro e w34 ⟨rfl,hi,hb,hk⟩;refine ⟨_,rfl, ?_⟩;have n0_:=Aside0.mk (Kd.R_mono (Kd.R_keep (IsS51.apart (show IsS51 w0 _ g s0_0 t186 t187 from by repeat ((with_reducible first | exact HI0.out | refine IsS51.far ?_ NB0_189.out _))) (by exact (Kd.R_mono (Kd.R_far (p:=⟨gb189,2,none⟩) (Kd.R_far (p:=⟨gb189,1,none⟩) (Kd.R_far (p:=⟨gb189,0,none⟩) (Kd.R_mono HO_3.out (fun k_ hk => (⟨hk,hk.2⟩ : _ ∧ k_ ≠ gb189))) (fun _ hk => hk.2) (.int .i64 ((rd_T41 x3_1 t185).f0))) (fun _ hk => hk.2) (.int .i64 ((rd_T41 x3_1 t185).f1))) (fun _ hk => hk.2) (.bool ((rd_T41 x3_1 t185).f2))) (fun _ h_ => h_.1))) (by decide)) hk (fun _ h => h.2)) (fun _ h => h.1));have n1_:=Aside0.mk (KeepBut.blk hk (g':=gb189) (o := .cells #[.int .i64 ((rd_T41 x3_1 t185).f0), .int .i64 ((rd_T41 x3_1 t185).f1), .bool ((rd_T41 x3_1 t185).f2)] 41 (0,0)) (by refine blk_put (cs:=#[.int .i64 ((rd_T41 x3_1 t185).f0), .int .i64 ((rd_T41 x3_1 t185).f1), .bool false]) ?_ 2 _ rfl;refine blk_put (cs:=#[.int .i64 ((rd_T41 x3_1 t185).f0), .int .i64 0, .bool false]) ?_ 1 _ rfl;refine blk_put (cs:=#[.int .i64 0, .int .i64 0, .bool false]) ?_ 0 _ rfl;exact BK189.out) NB189_0.out (by simp));have n2_:=Aside0.mk (KeepBut.trans (by repeat ((with_reducible first | exact HK.out | refine keep_far ?_ GW189.out _))) hk (.inl rfl));have n3_:=Aside0.mk (hb);have n4_:=Aside0.mk (hi);clear HO_3;clear BK189;clear HK;clear HB;clear HI0;have HO_3:=n0_;have BK189:=n1_;have HK:=n2_;have HB:=n3_;have HI0:=n4_;clear n0_ n1_ n2_ n3_ n4_;(try clear hb);(try clear hk);(try clear hi)) | ((with_reducible refine gate_dst (N:=50) rfl ?_);refine Kd.R_lit (Kd.int .i64) _ 3 ?hg (N:=50) ?hd (xs:=([(-1),240,241,2] : List Int)) (inner := [.int .i64 (-1), .int .i64 240, .int .i64 241, .int .i64 2]) (ok:=fun _ => True) (okp:=fun _ => True) ?hr ?hp (fun _ hk => hk) trivial (Below.refl _ _) (Nat.le_refl _) (by simp) ?_;(case hd => rfl);(case hg => rfl);(case hr => (go_simp;done));(case hp => exact (Reps.one (show Kd.M (Kd.int .i64) _ _ _ (-1) [.int .i64 (-1)] from rfl) (Reps.one (show Kd.M (Kd.int .i64) _ _ _ 240 [.int .i64 240] from rfl) (Reps.one (show Kd.M (Kd.int .i64) _ _ _ 241 [.int .i64 241] from rfl) (Reps.one (show Kd.M (Kd.int .i64) _ _ _ 2 [.int .i64 2] from rfl) (Reps.none _ _))))));intro v194 w35 ho36 hb hg_ hnew_;clear hg_ hnew_;(rw [← Ny193.out] at ho36);have n0_:=Aside0.mk (Kd.R_below (by exact HO_3.out) hb);have n1_:=Aside0.mk (Kd.R_lower ho36 (keep_size (w:=w) (g:=g) (row:=none) (by exact HK.out)));have n2_:=Aside0.mk (IsS51.below (by exact HI0.out) hb);have n3_:=Aside0.mk (blk_below (g:=gb189) (o := .cells #[.int .i64 ((rd_T41 x3_1 t185).f0), .int .i64 ((rd_T41 x3_1 t185).f1), .bool ((rd_T41 x3_1 t185).f2)] 41 (0,0)) (by exact BK189.out) hb);have n4_:=Aside0.mk (KeepBut.trans (by exact HK.out) (KeepBut.of_below hb g none) (.inl rfl));have n5_:=Aside0.mk (below_step (by exact HB.out) hb);clear HO_3;clear HI0;clear BK189;clear HK;clear HB;have HO_3:=n0_;have HO195:=n1_;have HI0:=n2_;have BK189:=n3_;have HK:=n4_;have HB:=n5_;clear n0_ n1_ n2_ n3_ n4_ n5_;clear hb ho36;obtain ⟨Ao37,co37,eo37⟩ := Kd.R_slice HO195.out;subst eo37) | ((with_reducible refine gate_callee (f:=23) rfl ?_);refine goesL_ (some 51) rfl rfl Tryd.func23 (by kernel_rfl) rfl #[.pointer (some ⟨g,0,none⟩), .slice Ao37 y193.length co37] rfl (by (try simp only [List.map_toArray,List.map_cons,List.map_nil]);rfl) ?_;(with_reducible refine (spec_l1Cur_among.calls g s0_0 t191 t192 _ _ y193 t196 t197 t198 w0 _ ?side1 ?side2 ?side3 ?side4 ?side5 A27.out).mono ?_);(case side1 => exact HI0.out);(case side2 => exact HB.out);(case side3 => repeat (exact (Kd.R_reads' HO195.out).2.2));(case side4 => exact (Kd.R_reads' HO195.out).2.1);(case side5 => exact far_slice (IsS51.own_ne HI0.out HO195.out (by decide)));rintro e w38 ⟨rfl,hi,hb,hk⟩;refine ⟨_,rfl, ?_⟩;have n0_:=Aside0.mk (Kd.R_mono (Kd.R_keep (IsS51.apart (show IsS51 w0 _ g s0_0 t191 t192 from by exact HI0.out) (by exact HO_3.out) (by decide)) hk (fun _ h => h.2)) (fun _ h => h.1));have n1_:=Aside0.mk (KeepBut.blk hk (g':=gb189) (o := .cells #[.int .i64 ((rd_T41 x3_1 t185).f0), .int .i64 ((rd_T41 x3_1 t185).f1), .bool ((rd_T41 x3_1 t185).f2)] 41 (0,0)) (by exact BK189.out) NB189_0.out (by simp));have n2_:=Aside0.mk (Kd.R_mono (Kd.R_keep (IsS51.apart (show IsS51 w0 _ g s0_0 t191 t192 from by exact HI0.out) (by exact HO195.out) (by decide)) hk (fun _ h => h.2)) (fun _ h => h.1));have n3_:=Aside0.mk (KeepBut.trans (by exact HK.out) hk (.inl rfl));have n4_:=Aside0.mk (hb);have n5_:=Aside0.mk (hi);clear HO_3;clear BK189;clear HO195;clear HK;clear HB;clear HI0;have HO_3:=n0_;have BK189:=n1_;have HO195:=n2_;have HK:=n3_;have HB:=n4_;have HI0:=n5_;clear n0_ n1_ n2_ n3_ n4_ n5_;(try clear hb);(try clear hk);(try clear hi);have hcz39_0 : w38.cell? ⟨gb189,0,none⟩ = some (.int .i64 ((rd_T41 x3_1 t185).f0)):=(blk_cell BK189.out 0).trans rfl;have hcz39_1 : w38.cell? ⟨gb189,1,none⟩ = some (.int .i64 ((rd_T41 x3_1 t185).f1)):=(blk_cell BK189.out 1).trans rfl;have hcz39_2 : w38.cell? ⟨gb189,2,none⟩ = some (.bool ((rd_T41 x3_1 t185).f2)):=(blk_cell BK189.out 2).trans rfl;have hfz39_0:=blk_frozen BK189.out 0;have hfz39_1:=blk_frozen BK189.out 1;have hfz39_2:=blk_frozen BK189.out 2) | ((with_reducible refine gate_store (t:=3) (p:=52) rfl ?_);refine store_event (t:=3) (p:=52) (v:=?vo_w40) (w1:=(w38.setCell ⟨gb189,0,none⟩ (.int .i64 t196))) ?hg ?ho ?hn ?hr ?_;(case ho => rfl);(case hg => rfl);(case hn => rfl);(case hr => (go_simp;done));intro w40 hw;have n0_ : Aside0 (Kd.R k41 41 w40 w.heap.size (fun k_ => k_ ≠ gb189) (.slice (some ad188) x3_1.length co29) x3_1):=⟨(by rw [hw];exact (by exact Kd.R_mono (Kd.R_far (p:=⟨gb189,0,none⟩) (Kd.R_mono HO_3.out (fun k_ hk => (⟨hk,hk.2⟩ : _ ∧ k_ ≠ gb189))) (fun _ hk => hk.2) (.int .i64 t196)) (fun _ hk => hk.1.2)))⟩;have n1_ : Aside0 (Kd.R (Kd.int .i64) 3 w40 w.heap.size (fun _ => True) (.slice Ao37 y193.length co37) y193):=⟨(by rw [hw];exact (by exact Kd.R_mono (Kd.R_far (p:=⟨gb189,0,none⟩) (Kd.R_types HO195.out BK189.out (by decide)) (fun _ hk => hk.2) (.int .i64 t196)) (fun _ hk => trivial)))⟩;have n2_ : Aside0 (w40.heap[gb189]? = some (.cells #[.int .i64 t196, .int .i64 ((rd_T41 x3_1 t185).f1), .bool ((rd_T41 x3_1 t185).f2)] 41 (0,0))):=⟨(by rw [hw];exact (by refine blk_put (cs:=#[.int .i64 ((rd_T41 x3_1 t185).f0), .int .i64 ((rd_T41 x3_1 t185).f1), .bool ((rd_T41 x3_1 t185).f2)]) ?_ 0 _ rfl;exact BK189.out))⟩;have n3_ : Aside0 (IsS51 w0 w40 g s0_0 t197 t198):=⟨(by rw [hw];exact (by repeat ((with_reducible first | exact HI0.out | refine IsS51.far ?_ NB0_189.out _))))⟩;have n4_ : Aside0 (KeepBut w w40 g none):=⟨(by rw [hw];exact (by repeat ((with_reducible first | exact HK.out | refine keep_far ?_ GW189.out _))))⟩;have n5_ : Aside0 (Below w0.heap.size w0 w40):=⟨(by rw [hw];exact (by repeat ((with_reducible first | exact HB.out | refine below_set ?_ GE189.out))))⟩;clear hw;clear HO_3;clear HO195;clear BK189;clear HI0;clear HK;clear HB;have HO_3:=n0_;have HO195:=n1_;have BK189:=n2_;have HI0:=n3_;have HK:=n4_;have HB:=n5_;clear n0_ n1_ n2_ n3_ n4_ n5_;have hcz41_0 : w40.cell? ⟨gb189,0,none⟩ = some (.int .i64 t196):=(blk_cell BK189.out 0).trans rfl;have hcz41_1 : w40.cell? ⟨gb189,1,none⟩ = some (.int .i64 ((rd_T41 x3_1 t185).f1)):=(blk_cell BK189.out 1).trans rfl;have hcz41_2 : w40.cell? ⟨gb189,2,none⟩ = some (.bool ((rd_T41 x3_1 t185).f2)):=(blk_cell BK189.out 2).trans rfl;have hfz41_0:=blk_frozen BK189.out 0;have hfz41_1:=blk_frozen BK189.out 1;have hfz41_2:=blk_frozen BK189.out 2;have p28 : 0 ≤ (t185 : Int):=of_decide_eq_true (by (with_reducible assumption));have q28 : (t185 : Int) < ((x3_1.length : Int) : Int):=of_decide_eq_true (by (with_reducible assumption));obtain ⟨go28,co28,eo28,gb28,gl28,cl28,HG28⟩ := Kd.R_form HO_3.out (by omega);(cases eo28);have GB28:=Aside0.mk gb28;have GG28:=Aside0.mk HG28;clear gb28 gl28 HG28;(simp only [add_plain] at hx188_0);(simp only [add_plain] at hx188_1);(simp only [add_plain] at hx188_2);obtain ⟨ce28,hcl28,hM28,hcc28,hfr28⟩ := Kd.R_elem HO_3.out z41 (t185 : Int) p28 q28;obtain rfl:=k41_openM hM28;have hx28_0 : w40.cell? ⟨go28,(t185 : Int).toNat * 3,none⟩ = some (.int .i64 ((rd_T41 x3_1 t185).f0)):=hcc28 0 _ rfl;have hx28_1 : w40.cell? ⟨go28,(t185 : Int).toNat * 3 + 1,none⟩ = some (.int .i64 ((rd_T41 x3_1 t185).f1)):=hcc28 1 _ rfl;have hx28_2 : w40.cell? ⟨go28,(t185 : Int).toNat * 3 + 2,none⟩ = some (.bool ((rd_T41 x3_1 t185).f2)):=hcc28 2 _ rfl;have hf28_0 : w40.frozen? ⟨go28,(t185 : Int).toNat * 3,none⟩ = false:=hfr28 0;have hf28_1 : w40.frozen? ⟨go28,(t185 : Int).toNat * 3 + 1,none⟩ = false:=hfr28 1;have hf28_2 : w40.frozen? ⟨go28,(t185 : Int).toNat * 3 + 2,none⟩ = false:=hfr28 2;clear hcl28 hcc28 hfr28;(try clear hM28);replace p28:=eq_true p28;replace q28:=eq_true q28;have HX42:=Aside0.mk (show Kd.R k41 41 w40 w.heap.size (fun k_ => k_ ≠ gb189) (.slice (some ⟨go28,0,none⟩) x3_1.length co29) x3_1 from (by exact HO_3.out));obtain ⟨ce42,hcl42,hM42,hcc42,hfr42⟩ := Kd.R_elem HX42.out z41 (t185 : Int) (of_decide_eq_true (by (with_reducible assumption))) (by have h_ : (t185 : Int) < ((x3_1.length : Int) : Int):=of_decide_eq_true (by (with_reducible assumption));exact h_);obtain rfl:=k41_openM hM42;have HP42:=Kd.R_seg HX42.out (t185 : Int) (of_decide_eq_true (by (with_reducible assumption))) (by have h_ : (t185 : Int) < ((x3_1.length : Int) : Int):=of_decide_eq_true (by (with_reducible assumption));exact h_) (seg := [.int .i64 t196, .int .i64 ((rd_T41 x3_1 t185).f1), .bool ((rd_T41 x3_1 t185).f2)]) (j:=0) hcl42 hcc42 (show 3 ≤ 3 from by decide) (x':=(⟨t196,(rd_T41 x3_1 t185).f1,(rd_T41 x3_1 t185).f2⟩ : S41)) (k41_mkM _ _ _ (⟨t196,(rd_T41 x3_1 t185).f1,(rd_T41 x3_1 t185).f2⟩ : S41) ) (fun _ hk => hk);have hx42_0:=hcc42 0 _ rfl;(try simp only [show (k41).sz = 3 from rfl,Nat.mul_one,Nat.add_zero] at hx42_0);have hf42_0:=hfr42 0;(try simp only [show (k41).sz = 3 from rfl,Nat.mul_one,Nat.add_zero] at hf42_0);have hx42_1:=hcc42 1 _ rfl;(try simp only [show (k41).sz = 3 from rfl,Nat.mul_one,Nat.add_zero] at hx42_1);have hf42_1:=hfr42 1;(try simp only [show (k41).sz = 3 from rfl,Nat.mul_one,Nat.add_zero] at hf42_1);have hx42_2:=hcc42 2 _ rfl;(try simp only [show (k41).sz = 3 from rfl,Nat.mul_one,Nat.add_zero] at hx42_2);have hf42_2:=hfr42 2;(try simp only [show (k41).sz = 3 from rfl,Nat.mul_one,Nat.add_zero] at hf42_2);clear hcl42 hcc42 hfr42;(try clear hM42)) | ((with_reducible refine gate_store (t:=41) (p:=77) rfl ?_);refine store_event (t:=41) (p:=77) (v:=?vo_w43) (w1:=(((w40.setCell ⟨go28,(t185 : Int).toNat * 3,none⟩ (.int .i64 t196)).setCell ⟨go28,(t185 : Int).toNat * 3 + 1,none⟩ (.int .i64 ((rd_T41 x3_1 t185).f1))).setCell ⟨go28,(t185 : Int).toNat * 3 + 2,none⟩ (.bool ((rd_T41 x3_1 t185).f2)))) ?hg ?ho ?hn ?hr ?_;(case ho => rfl);(case hg => rfl);(case hn => rfl);(case hr => (go_simp;done));intro w43 hw;have hg : w40.grownBy w43 (some go28):=(by rw [hw];exact HP42.2);have hp_ : Kd.R k41 41 w43 w.heap.size (fun k_ => k_ ≠ gb189) (.slice (some ⟨go28,0,none⟩) x3_1.length co29) y199:=(by rw [hw,Ny199.out];exact HP42.1);clear HP42;have n0_:=Aside0.mk (hp_);have n1_:=Aside0.mk (IsS51.grownX4 HI0.out (by exact HI0.out) hg (IsS51.own_ne HI0.out HO_3.out (by decide)));have n2_:=Aside0.mk (blk_grown (g:=gb189) (o := .cells #[.int .i64 t196, .int .i64 ((rd_T41 x3_1 t185).f1), .bool ((rd_T41 x3_1 t185).f2)] 41 (0,0)) (by exact BK189.out) hg (Kd.R_away HO_3.out (fun _ hk => hk)));have n3_:=Aside0.mk (Kd.R_over' (v:=(.slice (some ⟨go28,0,none⟩) x3_1.length co29)) (by exact HO195.out) (Kd.R_typed HO_3.out) (by decide) hg);have n4_:=Aside0.mk ((by rw [hw];exact below_set (below_set (below_set (HB.out) (Nat.le_trans HL.out GB28.out)) (Nat.le_trans HL.out GB28.out)) (Nat.le_trans HL.out GB28.out) : Below w0.heap.size w0 w43));have n5_:=Aside0.mk (KeepBut.trans (by exact HK.out) (KeepBut.of_grown hg g) (Kd.R_base2 HO_3.out));clear HO_3;clear HI0;clear BK189;clear HO195;clear HB;clear HK;have HO_3:=n0_;have HI0:=n1_;have BK189:=n2_;have HO195:=n3_;have HB:=n4_;have HK:=n5_;clear n0_ n1_ n2_ n3_ n4_ n5_;clear hg hw hp_))
        go_ret
        exact ⟨_,by rfl,by exact Kd.R_mono HO_3.out (fun _ hk => trivial),by exact HI0.out,by exact HB.out,by exact HK.out⟩
       ·rw [if_neg c26] at H
        have c26b0 : (t190 == 0) = false:=beq_eq_false_iff_ne.mpr c26
        have c26b1 : (t190 != 0) = true:=bne_iff_ne.mpr c26
        by_cases c44 : t190 = 1
        ·rw [if_pos c44] at H
         have c44b0 : (t190 == 1) = true:=beq_iff_eq.mpr c44
         have c44b1 : (t190 != 1) = false:=bne_eq_false_iff_eq.mpr c44
         clear c44
         obtain ⟨y200,hy200⟩ : ∃ y_ : List Int,y_ = (([(-401),(-400),400,401] : List Int)):=⟨_,rfl⟩
         replace H : ((spec_l1Cur_among.f s0_0 t191 t192 y200).bind fun bt203 => (some ((x3_1.set (t185 : Int).toNat (⟨(rd_T41 x3_1 t185).f0,bt203.1,(rd_T41 x3_1 t185).f2⟩ : S41)),bt203.2.1,bt203.2.2))) = some (r1,r2,r3):=by (rw [hy200];with_reducible exact H)
         have Ny200:=Aside0.mk hy200
         clear hy200
         replace H:=Option.bind_eq_some_iff.mp H
         obtain ⟨⟨t203,t204,t205⟩,A450,H⟩ := H
         replace H : (some ((x3_1.set (t185 : Int).toNat (⟨(rd_T41 x3_1 t185).f0,t203,(rd_T41 x3_1 t185).f2⟩ : S41)),t204,t205)) = some (r1,r2,r3):=H
         have A45:=Aside0.mk A450
         clear A450
         obtain ⟨y206,hy206⟩ : ∃ y_ : List (S41),y_ = (x3_1.set (t185 : Int).toNat (⟨(rd_T41 x3_1 t185).f0,t203,(rd_T41 x3_1 t185).f2⟩ : S41)):=⟨_,rfl⟩
         replace H : (some (y206,t204,t205)) = some (r1,r2,r3):=by (rw [hy206];with_reducible exact H)
         have Ny206:=Aside0.mk hy206
         clear hy206
         simp only [Option.some.injEq,Prod.mk.injEq] at H
         obtain ⟨rfl,rfl,rfl⟩ := H
         obtain ⟨Ao47,co47,eo47⟩ := Kd.R_slice HO_3.out
         subst eo47
         go_wp2_with (first | ((with_reducible refine gate_callee (f:=28) rfl ?_);refine goesL_ (some 40) rfl rfl Tryd.func28 (by kernel_rfl) rfl #[.pointer (some ⟨g,0,none⟩), .int .i64 (x3_1.length : Int)] rfl (by (try simp only [List.map_toArray,List.map_cons,List.map_nil]);rfl) ?_;(with_reducible refine (spec_l1Cur_pick.calls g s0_0 x1001_1 x1002_1 (x3_1.length : Int) t185 t186 t187 w0 _ ?side1 ?side2 A22.out).mono ?_);(case side1 => exact HI0.out);(case side2 => exact HB.out);rintro e w48 ⟨rfl,hi,hb,hk⟩;refine ⟨_,rfl, ?_⟩;have n0_:=Aside0.mk (Kd.R_mono (Kd.R_keep (IsS51.apart (show IsS51 w0 _ g s0_0 x1001_1 x1002_1 from by exact HI0.out) (by exact HO_3.out) (by decide)) hk (fun _ h => h.2)) (fun _ h => h.1));have n1_:=Aside0.mk (KeepBut.trans (by exact HK.out) hk (.inl rfl));have n2_:=Aside0.mk (hb);have n3_:=Aside0.mk (hi);clear HO_3;clear HK;clear HB;clear HI0;have HO_3:=n0_;have HK:=n1_;have HB:=n2_;have HI0:=n3_;clear n0_ n1_ n2_ n3_;(try clear hb);(try clear hk);(try clear hi);have p188 : 0 ≤ (t185 : Int):=of_decide_eq_true (by (with_reducible assumption));have q188 : t185 < (x3_1.length : Int):=of_decide_eq_true (by (with_reducible assumption));obtain ⟨ad188,e188,hx188_0,hx188_1,hx188_2⟩ := at_T41 (Kd.R_reads' HO_3.out).2.2 t185 p188 q188;cases e188;replace p188:=eq_true p188;replace q188:=eq_true q188) | ((with_reducible refine gate_dst (N:=7) rfl ?_);refine box_event ?hg (N:=7) ?hd (cs:=#[.int .i64 0, .int .i64 0, .bool false]) (t:=41) ?hr ?_;(case hd => rfl);(case hg => rfl);(case hr => (go_simp;done));intro gb189 hg w49 hbox hb;have n0_:=Aside0.mk (Kd.R_below (Kd.R_elderB (by exact HO_3.out) gb189 (Nat.le_of_eq hg.symm)) hb);have n1_:=Aside0.mk (IsS51.below (by exact HI0.out) hb);have n2_:=Aside0.mk (KeepBut.trans (by exact HK.out) (KeepBut.of_below hb g none) (.inl rfl));have n3_:=Aside0.mk (below_step (by exact HB.out) hb);have n4_:=Aside0.mk (hbox);have n5_:=Aside0.mk ((by rw [hg];exact (keep_size (w:=w) (g:=g) (row:=none) (by exact HK.out)) : w.heap.size ≤ gb189));have n6_:=Aside0.mk ((Nat.le_trans HW0.out (by rw [hg];exact (keep_size (w:=w) (g:=g) (row:=none) (by exact HK.out)) : w.heap.size ≤ gb189) : w0.heap.size ≤ gb189));have n7_:=Aside0.mk ((by rw [hg];exact Nat.ne_of_lt (IsS51.lt (show IsS51 w0 _ g s0_0 t186 t187 from by exact HI0.out)) : g ≠ gb189));have n8_:=Aside0.mk ((by rw [hg];exact Nat.ne_of_gt (IsS51.lt (show IsS51 w0 _ g s0_0 t186 t187 from by exact HI0.out)) : gb189 ≠ g));clear HO_3;clear HI0;clear HK;clear HB;have HO_3:=n0_;have HI0:=n1_;have HK:=n2_;have HB:=n3_;have BK189:=n4_;have GW189:=n5_;have GE189:=n6_;have NB0_189:=n7_;have NB189_0:=n8_;clear n0_ n1_ n2_ n3_ n4_ n5_ n6_ n7_ n8_;clear hb hbox hg;have hnb50:=NB189_0.out;have hnc50:=NB0_189.out;have hcz51_0 : w49.cell? ⟨gb189,0,none⟩ = some (.int .i64 0):=(blk_cell BK189.out 0).trans rfl;have hcz51_1 : w49.cell? ⟨gb189,1,none⟩ = some (.int .i64 0):=(blk_cell BK189.out 1).trans rfl;have hcz51_2 : w49.cell? ⟨gb189,2,none⟩ = some (.bool false):=(blk_cell BK189.out 2).trans rfl;have hfz51_0:=blk_frozen BK189.out 0;have hfz51_1:=blk_frozen BK189.out 1;have hfz51_2:=blk_frozen BK189.out 2) | ((with_reducible refine gate_callee (f:=28) rfl ?_);refine goesL_ (some 46) rfl rfl Tryd.func28 (by kernel_rfl) rfl #[.pointer (some ⟨g,0,none⟩), .int .i64 40] rfl (by (try simp only [List.map_toArray,List.map_cons,List.map_nil]);rfl) ?_;(with_reducible refine (spec_l1Cur_pick.calls g s0_0 t186 t187 40 t190 t191 t192 w0 _ ?side1 ?side2 A25.out).mono ?_);(case side1 => repeat ((with_reducible first | exact HI0.out | refine IsS51.far ?_ NB0_189.out _)));(case side2 => repeat ((with_reducible first | exact HB.out | refine below_set ?_ GE189.out)));rintro e w52 ⟨rfl,hi,hb,hk⟩;refine ⟨_,rfl, ?_⟩;have n0_:=Aside0.mk (Kd.R_mono (Kd.R_keep (IsS51.apart (show IsS51 w0 _ g s0_0 t186 t187 from by repeat ((with_reducible first | exact HI0.out | refine IsS51.far ?_ NB0_189.out _))) (by exact (Kd.R_mono (Kd.R_far (p:=⟨gb189,2,none⟩) (Kd.R_far (p:=⟨gb189,1,none⟩) (Kd.R_far (p:=⟨gb189,0,none⟩) (Kd.R_mono HO_3.out (fun k_ hk => (⟨hk,hk.2⟩ : _ ∧ k_ ≠ gb189))) (fun _ hk => hk.2) (.int .i64 ((rd_T41 x3_1 t185).f0))) (fun _ hk => hk.2) (.int .i64 ((rd_T41 x3_1 t185).f1))) (fun _ hk => hk.2) (.bool ((rd_T41 x3_1 t185).f2))) (fun _ h_ => h_.1))) (by decide)) hk (fun _ h => h.2)) (fun _ h => h.1));have n1_:=Aside0.mk (KeepBut.blk hk (g':=gb189) (o := .cells #[.int .i64 ((rd_T41 x3_1 t185).f0), .int .i64 ((rd_T41 x3_1 t185).f1), .bool ((rd_T41 x3_1 t185).f2)] 41 (0,0)) (by refine blk_put (cs:=#[.int .i64 ((rd_T41 x3_1 t185).f0), .int .i64 ((rd_T41 x3_1 t185).f1), .bool false]) ?_ 2 _ rfl;refine blk_put (cs:=#[.int .i64 ((rd_T41 x3_1 t185).f0), .int .i64 0, .bool false]) ?_ 1 _ rfl;refine blk_put (cs:=#[.int .i64 0, .int .i64 0, .bool false]) ?_ 0 _ rfl;exact BK189.out) NB189_0.out (by simp));have n2_:=Aside0.mk (KeepBut.trans (by repeat ((with_reducible first | exact HK.out | refine keep_far ?_ GW189.out _))) hk (.inl rfl));have n3_:=Aside0.mk (hb);have n4_:=Aside0.mk (hi);clear HO_3;clear BK189;clear HK;clear HB;clear HI0;have HO_3:=n0_;have BK189:=n1_;have HK:=n2_;have HB:=n3_;have HI0:=n4_;clear n0_ n1_ n2_ n3_ n4_;(try clear hb);(try clear hk);(try clear hi)) | ((with_reducible refine gate_dst (N:=56) rfl ?_);refine Kd.R_lit (Kd.int .i64) _ 3 ?hg (N:=56) ?hd (xs:=([(-401),(-400),400,401] : List Int)) (inner := [.int .i64 (-401), .int .i64 (-400), .int .i64 400, .int .i64 401]) (ok:=fun _ => True) (okp:=fun _ => True) ?hr ?hp (fun _ hk => hk) trivial (Below.refl _ _) (Nat.le_refl _) (by simp) ?_;(case hd => rfl);(case hg => rfl);(case hr => (go_simp;done));(case hp => exact (Reps.one (show Kd.M (Kd.int .i64) _ _ _ (-401) [.int .i64 (-401)] from rfl) (Reps.one (show Kd.M (Kd.int .i64) _ _ _ (-400) [.int .i64 (-400)] from rfl) (Reps.one (show Kd.M (Kd.int .i64) _ _ _ 400 [.int .i64 400] from rfl) (Reps.one (show Kd.M (Kd.int .i64) _ _ _ 401 [.int .i64 401] from rfl) (Reps.none _ _))))));intro v201 w53 ho54 hb hg_ hnew_;clear hg_ hnew_;(rw [← Ny200.out] at ho54);have n0_:=Aside0.mk (Kd.R_below (by exact HO_3.out) hb);have n1_:=Aside0.mk (Kd.R_lower ho54 (keep_size (w:=w) (g:=g) (row:=none) (by exact HK.out)));have n2_:=Aside0.mk (IsS51.below (by exact HI0.out) hb);have n3_:=Aside0.mk (blk_below (g:=gb189) (o := .cells #[.int .i64 ((rd_T41 x3_1 t185).f0), .int .i64 ((rd_T41 x3_1 t185).f1), .bool ((rd_T41 x3_1 t185).f2)] 41 (0,0)) (by exact BK189.out) hb);have n4_:=Aside0.mk (KeepBut.trans (by exact HK.out) (KeepBut.of_below hb g none) (.inl rfl));have n5_:=Aside0.mk (below_step (by exact HB.out) hb);clear HO_3;clear HI0;clear BK189;clear HK;clear HB;have HO_3:=n0_;have HO202:=n1_;have HI0:=n2_;have BK189:=n3_;have HK:=n4_;have HB:=n5_;clear n0_ n1_ n2_ n3_ n4_ n5_;clear hb ho54;obtain ⟨Ao55,co55,eo55⟩ := Kd.R_slice HO202.out;subst eo55) | ((with_reducible refine gate_callee (f:=23) rfl ?_);refine goesL_ (some 57) rfl rfl Tryd.func23 (by kernel_rfl) rfl #[.pointer (some ⟨g,0,none⟩), .slice Ao55 y200.length co55] rfl (by (try simp only [List.map_toArray,List.map_cons,List.map_nil]);rfl) ?_;(with_reducible refine (spec_l1Cur_among.calls g s0_0 t191 t192 _ _ y200 t203 t204 t205 w0 _ ?side1 ?side2 ?side3 ?side4 ?side5 A45.out).mono ?_);(case side1 => exact HI0.out);(case side2 => exact HB.out);(case side3 => repeat (exact (Kd.R_reads' HO202.out).2.2));(case side4 => exact (Kd.R_reads' HO202.out).2.1);(case side5 => exact far_slice (IsS51.own_ne HI0.out HO202.out (by decide)));rintro e w56 ⟨rfl,hi,hb,hk⟩;refine ⟨_,rfl, ?_⟩;have n0_:=Aside0.mk (Kd.R_mono (Kd.R_keep (IsS51.apart (show IsS51 w0 _ g s0_0 t191 t192 from by exact HI0.out) (by exact HO_3.out) (by decide)) hk (fun _ h => h.2)) (fun _ h => h.1));have n1_:=Aside0.mk (KeepBut.blk hk (g':=gb189) (o := .cells #[.int .i64 ((rd_T41 x3_1 t185).f0), .int .i64 ((rd_T41 x3_1 t185).f1), .bool ((rd_T41 x3_1 t185).f2)] 41 (0,0)) (by exact BK189.out) NB189_0.out (by simp));have n2_:=Aside0.mk (Kd.R_mono (Kd.R_keep (IsS51.apart (show IsS51 w0 _ g s0_0 t191 t192 from by exact HI0.out) (by exact HO202.out) (by decide)) hk (fun _ h => h.2)) (fun _ h => h.1));have n3_:=Aside0.mk (KeepBut.trans (by exact HK.out) hk (.inl rfl));have n4_:=Aside0.mk (hb);have n5_:=Aside0.mk (hi);clear HO_3;clear BK189;clear HO202;clear HK;clear HB;clear HI0;have HO_3:=n0_;have BK189:=n1_;have HO202:=n2_;have HK:=n3_;have HB:=n4_;have HI0:=n5_;clear n0_ n1_ n2_ n3_ n4_ n5_;(try clear hb);(try clear hk);(try clear hi);have hcz57_0 : w56.cell? ⟨gb189,0,none⟩ = some (.int .i64 ((rd_T41 x3_1 t185).f0)):=(blk_cell BK189.out 0).trans rfl;have hcz57_1 : w56.cell? ⟨gb189,1,none⟩ = some (.int .i64 ((rd_T41 x3_1 t185).f1)):=(blk_cell BK189.out 1).trans rfl;have hcz57_2 : w56.cell? ⟨gb189,2,none⟩ = some (.bool ((rd_T41 x3_1 t185).f2)):=(blk_cell BK189.out 2).trans rfl;have hfz57_0:=blk_frozen BK189.out 0;have hfz57_1:=blk_frozen BK189.out 1;have hfz57_2:=blk_frozen BK189.out 2) | ((with_reducible refine gate_store (t:=3) (p:=58) rfl ?_);refine store_event (t:=3) (p:=58) (v:=?vo_w58) (w1:=(w56.setCell ⟨gb189,1,none⟩ (.int .i64 t203))) ?hg ?ho ?hn ?hr ?_;(case ho => rfl);(case hg => rfl);(case hn => rfl);(case hr => (go_simp;done));intro w58 hw;have n0_ : Aside0 (Kd.R k41 41 w58 w.heap.size (fun k_ => k_ ≠ gb189) (.slice (some ad188) x3_1.length co47) x3_1):=⟨(by rw [hw];exact (by exact Kd.R_mono (Kd.R_far (p:=⟨gb189,1,none⟩) (Kd.R_mono HO_3.out (fun k_ hk => (⟨hk,hk.2⟩ : _ ∧ k_ ≠ gb189))) (fun _ hk => hk.2) (.int .i64 t203)) (fun _ hk => hk.1.2)))⟩;have n1_ : Aside0 (Kd.R (Kd.int .i64) 3 w58 w.heap.size (fun _ => True) (.slice Ao55 y200.length co55) y200):=⟨(by rw [hw];exact (by exact Kd.R_mono (Kd.R_far (p:=⟨gb189,1,none⟩) (Kd.R_types HO202.out BK189.out (by decide)) (fun _ hk => hk.2) (.int .i64 t203)) (fun _ hk => trivial)))⟩;have n2_ : Aside0 (w58.heap[gb189]? = some (.cells #[.int .i64 ((rd_T41 x3_1 t185).f0), .int .i64 t203, .bool ((rd_T41 x3_1 t185).f2)] 41 (0,0))):=⟨(by rw [hw];exact (by refine blk_put (cs:=#[.int .i64 ((rd_T41 x3_1 t185).f0), .int .i64 ((rd_T41 x3_1 t185).f1), .bool ((rd_T41 x3_1 t185).f2)]) ?_ 1 _ rfl;exact BK189.out))⟩;have n3_ : Aside0 (IsS51 w0 w58 g s0_0 t204 t205):=⟨(by rw [hw];exact (by repeat ((with_reducible first | exact HI0.out | refine IsS51.far ?_ NB0_189.out _))))⟩;have n4_ : Aside0 (KeepBut w w58 g none):=⟨(by rw [hw];exact (by repeat ((with_reducible first | exact HK.out | refine keep_far ?_ GW189.out _))))⟩;have n5_ : Aside0 (Below w0.heap.size w0 w58):=⟨(by rw [hw];exact (by repeat ((with_reducible first | exact HB.out | refine below_set ?_ GE189.out))))⟩;clear hw;clear HO_3;clear HO202;clear BK189;clear HI0;clear HK;clear HB;have HO_3:=n0_;have HO202:=n1_;have BK189:=n2_;have HI0:=n3_;have HK:=n4_;have HB:=n5_;clear n0_ n1_ n2_ n3_ n4_ n5_;have hcz59_0 : w58.cell? ⟨gb189,0,none⟩ = some (.int .i64 ((rd_T41 x3_1 t185).f0)):=(blk_cell BK189.out 0).trans rfl;have hcz59_1 : w58.cell? ⟨gb189,1,none⟩ = some (.int .i64 t203):=(blk_cell BK189.out 1).trans rfl;have hcz59_2 : w58.cell? ⟨gb189,2,none⟩ = some (.bool ((rd_T41 x3_1 t185).f2)):=(blk_cell BK189.out 2).trans rfl;have hfz59_0:=blk_frozen BK189.out 0;have hfz59_1:=blk_frozen BK189.out 1;have hfz59_2:=blk_frozen BK189.out 2;have p46 : 0 ≤ (t185 : Int):=of_decide_eq_true (by (with_reducible assumption));have q46 : (t185 : Int) < ((x3_1.length : Int) : Int):=of_decide_eq_true (by (with_reducible assumption));obtain ⟨go46,co46,eo46,gb46,gl46,cl46,HG46⟩ := Kd.R_form HO_3.out (by omega);(cases eo46);have GB46:=Aside0.mk gb46;have GG46:=Aside0.mk HG46;clear gb46 gl46 HG46;(simp only [add_plain] at hx188_0);(simp only [add_plain] at hx188_1);(simp only [add_plain] at hx188_2);obtain ⟨ce46,hcl46,hM46,hcc46,hfr46⟩ := Kd.R_elem HO_3.out z41 (t185 : Int) p46 q46;obtain rfl:=k41_openM hM46;have hx46_0 : w58.cell? ⟨go46,(t185 : Int).toNat * 3,none⟩ = some (.int .i64 ((rd_T41 x3_1 t185).f0)):=hcc46 0 _ rfl;have hx46_1 : w58.cell? ⟨go46,(t185 : Int).toNat * 3 + 1,none⟩ = some (.int .i64 ((rd_T41 x3_1 t185).f1)):=hcc46 1 _ rfl;have hx46_2 : w58.cell? ⟨go46,(t185 : Int).toNat * 3 + 2,none⟩ = some (.bool ((rd_T41 x3_1 t185).f2)):=hcc46 2 _ rfl;have hf46_0 : w58.frozen? ⟨go46,(t185 : Int).toNat * 3,none⟩ = false:=hfr46 0;have hf46_1 : w58.frozen? ⟨go46,(t185 : Int).toNat * 3 + 1,none⟩ = false:=hfr46 1;have hf46_2 : w58.frozen? ⟨go46,(t185 : Int).toNat * 3 + 2,none⟩ = false:=hfr46 2;clear hcl46 hcc46 hfr46;(try clear hM46);replace p46:=eq_true p46;replace q46:=eq_true q46;have HX60:=Aside0.mk (show Kd.R k41 41 w58 w.heap.size (fun k_ => k_ ≠ gb189) (.slice (some ⟨go46,0,none⟩) x3_1.length co47) x3_1 from (by exact HO_3.out));obtain ⟨ce60,hcl60,hM60,hcc60,hfr60⟩ := Kd.R_elem HX60.out z41 (t185 : Int) (of_decide_eq_true (by (with_reducible assumption))) (by have h_ : (t185 : Int) < ((x3_1.length : Int) : Int):=of_decide_eq_true (by (with_reducible assumption));exact h_);obtain rfl:=k41_openM hM60;have HP60:=Kd.R_seg HX60.out (t185 : Int) (of_decide_eq_true (by (with_reducible assumption))) (by have h_ : (t185 : Int) < ((x3_1.length : Int) : Int):=of_decide_eq_true (by (with_reducible assumption));exact h_) (seg := [.int .i64 ((rd_T41 x3_1 t185).f0), .int .i64 t203, .bool ((rd_T41 x3_1 t185).f2)]) (j:=0) hcl60 hcc60 (show 3 ≤ 3 from by decide) (x':=(⟨(rd_T41 x3_1 t185).f0,t203,(rd_T41 x3_1 t185).f2⟩ : S41)) (k41_mkM _ _ _ (⟨(rd_T41 x3_1 t185).f0,t203,(rd_T41 x3_1 t185).f2⟩ : S41) ) (fun _ hk => hk);have hx60_0:=hcc60 0 _ rfl;(try simp only [show (k41).sz = 3 from rfl,Nat.mul_one,Nat.add_zero] at hx60_0);have hf60_0:=hfr60 0;(try simp only [show (k41).sz = 3 from rfl,Nat.mul_one,Nat.add_zero] at hf60_0);have hx60_1:=hcc60 1 _ rfl;(try simp only [show (k41).sz = 3 from rfl,Nat.mul_one,Nat.add_zero] at hx60_1);have hf60_1:=hfr60 1;(try simp only [show (k41).sz = 3 from rfl,Nat.mul_one,Nat.add_zero] at hf60_1);have hx60_2:=hcc60 2 _ rfl;(try simp only [show (k41).sz = 3 from rfl,Nat.mul_one,Nat.add_zero] at hx60_2);have hf60_2:=hfr60 2;(try simp only [show (k41).sz = 3 from rfl,Nat.mul_one,Nat.add_zero] at hf60_2);clear hcl60 hcc60 hfr60;(try clear hM60)) | ((with_reducible refine gate_store (t:=41) (p:=77) rfl ?_);refine store_event (t:=41) (p:=77) (v:=?vo_w61) (w1:=(((w58.setCell ⟨go46,(t185 : Int).toNat * 3,none⟩ (.int .i64 ((rd_T41 x3_1 t185).f0))).setCell ⟨go46,(t185 : Int).toNat * 3 + 1,none⟩ (.int .i64 t203)).setCell ⟨go46,(t185 : Int).toNat * 3 + 2,none⟩ (.bool ((rd_T41 x3_1 t185).f2)))) ?hg ?ho ?hn ?hr ?_;(case ho => rfl);(case hg => rfl);(case hn => rfl);(case hr => (go_simp;done));intro w61 hw;have hg : w58.grownBy w61 (some go46):=(by rw [hw];exact HP60.2);have hp_ : Kd.R k41 41 w61 w.heap.size (fun k_ => k_ ≠ gb189) (.slice (some ⟨go46,0,none⟩) x3_1.length co47) y206:=(by rw [hw,Ny206.out];exact HP60.1);clear HP60;have n0_:=Aside0.mk (hp_);have n1_:=Aside0.mk (IsS51.grownX4 HI0.out (by exact HI0.out) hg (IsS51.own_ne HI0.out HO_3.out (by decide)));have n2_:=Aside0.mk (blk_grown (g:=gb189) (o := .cells #[.int .i64 ((rd_T41 x3_1 t185).f0), .int .i64 t203, .bool ((rd_T41 x3_1 t185).f2)] 41 (0,0)) (by exact BK189.out) hg (Kd.R_away HO_3.out (fun _ hk => hk)));have n3_:=Aside0.mk (Kd.R_over' (v:=(.slice (some ⟨go46,0,none⟩) x3_1.length co47)) (by exact HO202.out) (Kd.R_typed HO_3.out) (by decide) hg);have n4_:=Aside0.mk ((by rw [hw];exact below_set (below_set (below_set (HB.out) (Nat.le_trans HL.out GB46.out)) (Nat.le_trans HL.out GB46.out)) (Nat.le_trans HL.out GB46.out) : Below w0.heap.size w0 w61));have n5_:=Aside0.mk (KeepBut.trans (by exact HK.out) (KeepBut.of_grown hg g) (Kd.R_base2 HO_3.out));clear HO_3;clear HI0;clear BK189;clear HO202;clear HB;clear HK;have HO_3:=n0_;have HI0:=n1_;have BK189:=n2_;have HO202:=n3_;have HB:=n4_;have HK:=n5_;clear n0_ n1_ n2_ n3_ n4_ n5_;clear hg hw hp_))
         go_ret
         exact ⟨_,by rfl,by exact Kd.R_mono HO_3.out (fun _ hk => trivial),by exact HI0.out,by exact HB.out,by exact HK.out⟩
        ·rw [if_neg c44] at H
         have c44b0 : (t190 == 1) = false:=beq_eq_false_iff_ne.mpr c44
         have c44b1 : (t190 != 1) = true:=bne_iff_ne.mpr c44
         by_cases c62 : t190 = 2
         ·rw [if_pos c62] at H
          have c62b0 : (t190 == 2) = true:=beq_iff_eq.mpr c62
          have c62b1 : (t190 != 2) = false:=bne_eq_false_iff_eq.mpr c62
          clear c62
          have H':=Aside0.mk H
          clear H
          obtain ⟨Ao63,co63,eo63⟩ := Kd.R_slice HO_3.out
          subst eo63
          go_wp2_with (first | ((with_reducible refine gate_callee (f:=28) rfl ?_);refine goesL_ (some 40) rfl rfl Tryd.func28 (by kernel_rfl) rfl #[.pointer (some ⟨g,0,none⟩), .int .i64 (x3_1.length : Int)] rfl (by (try simp only [List.map_toArray,List.map_cons,List.map_nil]);rfl) ?_;(with_reducible refine (spec_l1Cur_pick.calls g s0_0 x1001_1 x1002_1 (x3_1.length : Int) t185 t186 t187 w0 _ ?side1 ?side2 A22.out).mono ?_);(case side1 => exact HI0.out);(case side2 => exact HB.out);rintro e w64 ⟨rfl,hi,hb,hk⟩;refine ⟨_,rfl, ?_⟩;have n0_:=Aside0.mk (Kd.R_mono (Kd.R_keep (IsS51.apart (show IsS51 w0 _ g s0_0 x1001_1 x1002_1 from by exact HI0.out) (by exact HO_3.out) (by decide)) hk (fun _ h => h.2)) (fun _ h => h.1));have n1_:=Aside0.mk (KeepBut.trans (by exact HK.out) hk (.inl rfl));have n2_:=Aside0.mk (hb);have n3_:=Aside0.mk (hi);clear HO_3;clear HK;clear HB;clear HI0;have HO_3:=n0_;have HK:=n1_;have HB:=n2_;have HI0:=n3_;clear n0_ n1_ n2_ n3_;(try clear hb);(try clear hk);(try clear hi);have p188 : 0 ≤ (t185 : Int):=of_decide_eq_true (by (with_reducible assumption));have q188 : t185 < (x3_1.length : Int):=of_decide_eq_true (by (with_reducible assumption));obtain ⟨ad188,e188,hx188_0,hx188_1,hx188_2⟩ := at_T41 (Kd.R_reads' HO_3.out).2.2 t185 p188 q188;cases e188;replace p188:=eq_true p188;replace q188:=eq_true q188) | ((with_reducible refine gate_dst (N:=7) rfl ?_);refine box_event ?hg (N:=7) ?hd (cs:=#[.int .i64 0, .int .i64 0, .bool false]) (t:=41) ?hr ?_;(case hd => rfl);(case hg => rfl);(case hr => (go_simp;done));intro gb189 hg w65 hbox hb;have n0_:=Aside0.mk (Kd.R_below (Kd.R_elderB (by exact HO_3.out) gb189 (Nat.le_of_eq hg.symm)) hb);have n1_:=Aside0.mk (IsS51.below (by exact HI0.out) hb);have n2_:=Aside0.mk (KeepBut.trans (by exact HK.out) (KeepBut.of_below hb g none) (.inl rfl));have n3_:=Aside0.mk (below_step (by exact HB.out) hb);have n4_:=Aside0.mk (hbox);have n5_:=Aside0.mk ((by rw [hg];exact (keep_size (w:=w) (g:=g) (row:=none) (by exact HK.out)) : w.heap.size ≤ gb189));have n6_:=Aside0.mk ((Nat.le_trans HW0.out (by rw [hg];exact (keep_size (w:=w) (g:=g) (row:=none) (by exact HK.out)) : w.heap.size ≤ gb189) : w0.heap.size ≤ gb189));have n7_:=Aside0.mk ((by rw [hg];exact Nat.ne_of_lt (IsS51.lt (show IsS51 w0 _ g s0_0 t186 t187 from by exact HI0.out)) : g ≠ gb189));have n8_:=Aside0.mk ((by rw [hg];exact Nat.ne_of_gt (IsS51.lt (show IsS51 w0 _ g s0_0 t186 t187 from by exact HI0.out)) : gb189 ≠ g));clear HO_3;clear HI0;clear HK;clear HB;have HO_3:=n0_;have HI0:=n1_;have HK:=n2_;have HB:=n3_;have BK189:=n4_;have GW189:=n5_;have GE189:=n6_;have NB0_189:=n7_;have NB189_0:=n8_;clear n0_ n1_ n2_ n3_ n4_ n5_ n6_ n7_ n8_;clear hb hbox hg;have hnb66:=NB189_0.out;have hnc66:=NB0_189.out;have hcz67_0 : w65.cell? ⟨gb189,0,none⟩ = some (.int .i64 0):=(blk_cell BK189.out 0).trans rfl;have hcz67_1 : w65.cell? ⟨gb189,1,none⟩ = some (.int .i64 0):=(blk_cell BK189.out 1).trans rfl;have hcz67_2 : w65.cell? ⟨gb189,2,none⟩ = some (.bool false):=(blk_cell BK189.out 2).trans rfl;have hfz67_0:=blk_frozen BK189.out 0;have hfz67_1:=blk_frozen BK189.out 1;have hfz67_2:=blk_frozen BK189.out 2) | ((with_reducible refine gate_callee (f:=28) rfl ?_);refine goesL_ (some 46) rfl rfl Tryd.func28 (by kernel_rfl) rfl #[.pointer (some ⟨g,0,none⟩), .int .i64 40] rfl (by (try simp only [List.map_toArray,List.map_cons,List.map_nil]);rfl) ?_;(with_reducible refine (spec_l1Cur_pick.calls g s0_0 t186 t187 40 t190 t191 t192 w0 _ ?side1 ?side2 A25.out).mono ?_);(case side1 => repeat ((with_reducible first | exact HI0.out | refine IsS51.far ?_ NB0_189.out _)));(case side2 => repeat ((with_reducible first | exact HB.out | refine below_set ?_ GE189.out)));rintro e w68 ⟨rfl,hi,hb,hk⟩;refine ⟨_,rfl, ?_⟩;have n0_:=Aside0.mk (Kd.R_mono (Kd.R_keep (IsS51.apart (show IsS51 w0 _ g s0_0 t186 t187 from by repeat ((with_reducible first | exact HI0.out | refine IsS51.far ?_ NB0_189.out _))) (by exact (Kd.R_mono (Kd.R_far (p:=⟨gb189,2,none⟩) (Kd.R_far (p:=⟨gb189,1,none⟩) (Kd.R_far (p:=⟨gb189,0,none⟩) (Kd.R_mono HO_3.out (fun k_ hk => (⟨hk,hk.2⟩ : _ ∧ k_ ≠ gb189))) (fun _ hk => hk.2) (.int .i64 ((rd_T41 x3_1 t185).f0))) (fun _ hk => hk.2) (.int .i64 ((rd_T41 x3_1 t185).f1))) (fun _ hk => hk.2) (.bool ((rd_T41 x3_1 t185).f2))) (fun _ h_ => h_.1))) (by decide)) hk (fun _ h => h.2)) (fun _ h => h.1));have n1_:=Aside0.mk (KeepBut.blk hk (g':=gb189) (o := .cells #[.int .i64 ((rd_T41 x3_1 t185).f0), .int .i64 ((rd_T41 x3_1 t185).f1), .bool ((rd_T41 x3_1 t185).f2)] 41 (0,0)) (by refine blk_put (cs:=#[.int .i64 ((rd_T41 x3_1 t185).f0), .int .i64 ((rd_T41 x3_1 t185).f1), .bool false]) ?_ 2 _ rfl;refine blk_put (cs:=#[.int .i64 ((rd_T41 x3_1 t185).f0), .int .i64 0, .bool false]) ?_ 1 _ rfl;refine blk_put (cs:=#[.int .i64 0, .int .i64 0, .bool false]) ?_ 0 _ rfl;exact BK189.out) NB189_0.out (by simp));have n2_:=Aside0.mk (KeepBut.trans (by repeat ((with_reducible first | exact HK.out | refine keep_far ?_ GW189.out _))) hk (.inl rfl));have n3_:=Aside0.mk (hb);have n4_:=Aside0.mk (hi);clear HO_3;clear BK189;clear HK;clear HB;clear HI0;have HO_3:=n0_;have BK189:=n1_;have HK:=n2_;have HB:=n3_;have HI0:=n4_;clear n0_ n1_ n2_ n3_ n4_;(try clear hb);(try clear hk);(try clear hi)))
          (skip)
          go_loopg [3] k1 (fun kq v3 w' => ∃ (x3_2 : List (S41)) (x1001_2 : Int) (x1002_2 : Int),Aside0 (spec_l1Cur_readings.l1 kq x3_2 t185 s0_0 x1001_2 x1002_2 ((rd_T41 x3_1 t185).f0) ((rd_T41 x3_1 t185).f1) ((rd_T41 x3_1 t185).f2) = some (r1,r2,r3)) ∧ Aside0 (kq ≤ k1) ∧ Aside0 (Kd.R k41 41 w' w.heap.size (fun k_ => k_ ≠ gb189) v3 x3_2) ∧ Aside0 (w'.heap[gb189]? = some (.cells #[.int .i64 ((rd_T41 x3_1 t185).f0), .int .i64 ((rd_T41 x3_1 t185).f1), .bool ((rd_T41 x3_1 t185).f2)] 41 (0,0))) ∧ Aside0 (IsS51 w0 w' g s0_0 x1001_2 x1002_2) ∧ Aside0 (KeepBut w w' g none) ∧ Aside0 (Below w0.heap.size w0 w'))
          case atStart => exact ⟨(x3_1),(t191),(t192),H',⟨Nat.le_refl _⟩,⟨by exact Kd.R_mono HO_3.out (fun _ hk => hk.2)⟩,⟨by exact BK189.out⟩,⟨by exact HI0.out⟩,⟨by exact HK.out⟩,⟨by exact HB.out⟩⟩
          case round =>
           clear H'
           try clear c1
           try clear p1
           try clear q1
           try clear hx1
           try clear c2
           try clear p2
           try clear q2
           try clear hx2
           try clear hf2
           try clear c3
           try clear c4
           try clear p4
           try clear q4
           try clear hx4
           try clear hf4
           try clear c5
           try clear c6
           try clear p6
           try clear hx6
           try clear hf6
           try clear c8
           try clear c8b0
           try clear c11
           try clear p18
           try clear q18
           try clear hx18
           try clear c20
           try clear c20b0
           try clear c20b1
           try clear c20b2
           try clear c23
           try clear c23b0
           try clear c24
           try clear c24b0
           try clear c26
           try clear c26b0
           try clear c26b1
           try clear c28
           try clear p28
           try clear q28
           try clear hx28
           try clear hf28
           try clear c29
           try clear c32
           try clear c36
           try clear c42
           try clear hx42
           try clear hf42
           try clear c44
           try clear c44b0
           try clear c44b1
           try clear c46
           try clear p46
           try clear q46
           try clear hx46
           try clear hf46
           try clear c50
           try clear c60
           try clear hx60
           try clear hf60
           try clear c62
           try clear c62b0
           try clear c62b1
           try clear p64
           try clear c66
           try clear hcz33_0
           try clear hcz33_1
           try clear hcz33_2
           try clear hcz39_0
           try clear hcz39_1
           try clear hcz39_2
           try clear hcz41_0
           try clear hcz41_1
           try clear hcz41_2
           try clear hcz51_0
           try clear hcz51_1
           try clear hcz51_2
           try clear hcz57_0
           try clear hcz57_1
           try clear hcz57_2
           try clear hcz59_0
           try clear hcz59_1
           try clear hcz59_2
           try clear hcz67_0
           try clear hcz67_1
           try clear hcz67_2
           try clear hfz33_0
           try clear hfz33_1
           try clear hfz33_2
           try clear hfz39_0
           try clear hfz39_1
           try clear hfz39_2
           try clear hfz41_0
           try clear hfz41_1
           try clear hfz41_2
           try clear hfz51_0
           try clear hfz51_1
           try clear hfz51_2
           try clear hfz57_0
           try clear hfz57_1
           try clear hfz57_2
           try clear hfz59_0
           try clear hfz59_1
           try clear hfz59_2
           try clear hfz67_0
           try clear hfz67_1
           try clear hfz67_2
           try clear hx188_0
           try clear hx188_1
           try clear hx188_2
           try clear hx28_0
           try clear hx28_1
           try clear hx28_2
           try clear hx42_0
           try clear hx42_1
           try clear hx42_2
           try clear hx46_0
           try clear hx46_1
           try clear hx46_2
           try clear hx60_0
           try clear hx60_1
           try clear hx60_2
           try clear p188
           try clear p2
           try clear p28
           try clear p46
           try clear q188
           try clear q28
           try clear q46
           obtain ⟨x3_2,x1001_2,x1002_2,HA,HK2,HO_3,BK189,HI0,HK,HB⟩ := hrel
           cases gk with
           | zero => exact absurd HA.out (by simp [spec_l1Cur_readings.l1])
           | succ k2 =>
            have H:=HA.out
            clear HA
            simp only [spec_l1Cur_readings.l1] at H
            replace H:=Option.bind_eq_some_iff.mp H
            obtain ⟨⟨t207,t208,t209⟩,A690,H⟩ := H
            replace H : (if (x3_2.length : Int) < (wrap64 (20 + t207)) then (if x3_2.length < 5864062014805 then (spec_l1Cur_readings.l1 k2 (x3_2 ++ [(⟨wrap64 (200 + (x3_2.length : Int)),0,false⟩ : S41)]) t185 s0_0 t208 t209 ((rd_T41 x3_1 t185).f0) ((rd_T41 x3_1 t185).f1) ((rd_T41 x3_1 t185).f2)) else (none)) else (if 0 ≤ t185 then (if t185 < (x3_2.length : Int) then (some ((x3_2.set (t185 : Int).toNat (⟨((rd_T41 x3_1 t185).f0),((rd_T41 x3_1 t185).f1),((rd_T41 x3_1 t185).f2)⟩ : S41)),t208,t209)) else (none)) else (none))) = some (r1,r2,r3):=H
            have A69:=Aside0.mk A690
            clear A690
            by_cases c70 : (x3_2.length : Int) < (wrap64 (20 + t207))
            ·rw [if_pos c70] at H
             have c70b0 : decide ((x3_2.length : Int) < (wrap64 (20 + t207))) = true:=decide_eq_true c70
             clear c70
             by_cases c71 : x3_2.length < 5864062014805
             ·rw [if_pos c71] at H
              have LMc71:=Aside0.mk c71
              clear c71
              obtain ⟨y210,hy210⟩ : ∃ y_ : List (S41),y_ = (x3_2 ++ [(⟨wrap64 (200 + (x3_2.length : Int)),0,false⟩ : S41)]):=⟨_,rfl⟩
              replace H : (spec_l1Cur_readings.l1 k2 y210 t185 s0_0 t208 t209 ((rd_T41 x3_1 t185).f0) ((rd_T41 x3_1 t185).f1) ((rd_T41 x3_1 t185).f2)) = some (r1,r2,r3):=by (rw [hy210];with_reducible exact H)
              have Ny210:=Aside0.mk hy210
              clear hy210
              have H':=Aside0.mk H
              clear H
              obtain ⟨Ao72,co72,eo72⟩ := Kd.R_slice HO_3.out
              subst eo72
              go_wp2_with (first | ((with_reducible refine gate_callee (f:=28) rfl ?_);refine goesL_ (some 64) rfl rfl Tryd.func28 (by kernel_rfl) rfl #[.pointer (some ⟨g,0,none⟩), .int .i64 2] rfl (by (try simp only [List.map_toArray,List.map_cons,List.map_nil]);rfl) ?_;(with_reducible refine (spec_l1Cur_pick.calls g s0_0 x1001_2 x1002_2 2 t207 t208 t209 w0 _ ?side1 ?side2 A69.out).mono ?_);(case side1 => exact HI0.out);(case side2 => exact HB.out);rintro e w73 ⟨rfl,hi,hb,hk⟩;refine ⟨_,rfl, ?_⟩;have n0_:=Aside0.mk (Kd.R_mono (Kd.R_keep (IsS51.apart (show IsS51 w0 _ g s0_0 x1001_2 x1002_2 from by exact HI0.out) (by exact HO_3.out) (by decide)) hk (fun _ h => h.2)) (fun _ h => h.1));have n1_:=Aside0.mk (KeepBut.blk hk (g':=gb189) (o := .cells #[.int .i64 ((rd_T41 x3_1 t185).f0), .int .i64 ((rd_T41 x3_1 t185).f1), .bool ((rd_T41 x3_1 t185).f2)] 41 (0,0)) (by exact BK189.out) NB189_0.out (by simp));have n2_:=Aside0.mk (KeepBut.trans (by exact HK.out) hk (.inl rfl));have n3_:=Aside0.mk (hb);have n4_:=Aside0.mk (hi);clear HO_3;clear BK189;clear HK;clear HB;clear HI0;have HO_3:=n0_;have BK189:=n1_;have HK:=n2_;have HB:=n3_;have HI0:=n4_;clear n0_ n1_ n2_ n3_ n4_;(try clear hb);(try clear hk);(try clear hi)) | ((with_reducible refine gate_builtin (b := .append) (xs:=#[.tmp 67, .tmp 72]) rfl ?_);at_builtin;refine Kd.R_append k41 w.heap.size rfl (.tmp 67) (.tmp 72) 30 41 (.agg #[(.int .i64 0),(.int .i64 0),(.bool false)]) 24 rfl Tryd.underlying30 info41 rfl (by decide) (by omega) (.slice Ao72 x3_2.length co72) x3_2 (⟨wrap64 (200 + (x3_2.length : Int)),0,false⟩ : S41) [.int .i64 (wrap64 (200 + (x3_2.length : Int))), .int .i64 0, .bool false] (fun k_ => k_ ≠ gb189) (fun _ => False) rfl rfl ?aP (fun _ hk => hk.elim) ?aF ?aO (Below.refl _ _) ?aS ?aL ?_;(case aP => exact k41_mkM _ _ _ (⟨wrap64 (200 + (x3_2.length : Int)),0,false⟩ : S41));(case aF => exact (fun k_ hk => Kd.freshB (g:=gb189) (o := .cells #[.int .i64 ((rd_T41 x3_1 t185).f0), .int .i64 ((rd_T41 x3_1 t185).f1), .bool ((rd_T41 x3_1 t185).f2)] 41 (0,0)) (by exact BK189.out) k_ hk));(case aO => exact (by exact HO_3.out));(case aS => exact (keep_size (w:=w) (g:=g) (row:=none) (by exact HK.out)));(case aL => have:=LMc71.out;omega);intro v211 w74 ho hb hg hat;rw [← Ny210.out] at ho;have n0_:=Aside0.mk (blk_grown (g:=gb189) (o := .cells #[.int .i64 ((rd_T41 x3_1 t185).f0), .int .i64 ((rd_T41 x3_1 t185).f1), .bool ((rd_T41 x3_1 t185).f2)] 41 (0,0)) (by exact BK189.out) hg (Kd.R_away HO_3.out (fun _ hk => hk)));have n1_:=Aside0.mk (IsS51.grownX4 HI0.out (by exact HI0.out) hg (IsS51.own_ne HI0.out HO_3.out (by decide)));have n2_:=Aside0.mk (below_weaken (by exact HB.out) HL.out hb);have n3_:=Aside0.mk (KeepBut.trans (by exact HK.out) (KeepBut.of_grown hg g) (Kd.R_base2 HO_3.out));have n4_:=Aside0.mk (ho);clear BK189;clear HI0;clear HB;clear HK;clear HO_3;have BK189:=n0_;have HI0:=n1_;have HB:=n2_;have HK:=n3_;have HO212:=n4_;clear n0_ n1_ n2_ n3_ n4_;clear ho hb hg hat))
              go_roundg k2
              case measure => have:=HK1.out;have:=HK2.out;omega
              case rel => exact ⟨(y210),(t208),(t209),H',⟨by have:=HK1.out;have:=HK2.out;omega⟩,⟨by exact HO212.out⟩,⟨by exact BK189.out⟩,⟨by exact HI0.out⟩,⟨by exact HK.out⟩,⟨by exact HB.out⟩⟩
             ·rw [if_neg c71] at H
              exact absurd H (by simp)
            ·rw [if_neg c70] at H
             have c70b0 : decide ((x3_2.length : Int) < (wrap64 (20 + t207))) = false:=decide_eq_false c70
             clear c70
             by_cases c75 : 0 ≤ t185
             ·rw [if_pos c75] at H
              have c75b0 : decide (0 ≤ t185) = true:=decide_eq_true c75
              clear c75
              by_cases c76 : t185 < (x3_2.length : Int)
              ·rw [if_pos c76] at H
               have c76b0 : decide (t185 < (x3_2.length : Int)) = true:=decide_eq_true c76
               clear c76
               obtain ⟨y213,hy213⟩ : ∃ y_ : List (S41),y_ = (x3_2.set (t185 : Int).toNat (⟨((rd_T41 x3_1 t185).f0),((rd_T41 x3_1 t185).f1),((rd_T41 x3_1 t185).f2)⟩ : S41)):=⟨_,rfl⟩
               replace H : (some (y213,t208,t209)) = some (r1,r2,r3):=by (rw [hy213];with_reducible exact H)
               have Ny213:=Aside0.mk hy213
               clear hy213
               simp only [Option.some.injEq,Prod.mk.injEq] at H
               obtain ⟨rfl,rfl,rfl⟩ := H
               obtain ⟨Ao78,co78,eo78⟩ := Kd.R_slice HO_3.out
               subst eo78
               go_wp2_with (first | ((with_reducible refine gate_callee (f:=28) rfl ?_);refine goesL_ (some 64) rfl rfl Tryd.func28 (by kernel_rfl) rfl #[.pointer (some ⟨g,0,none⟩), .int .i64 2] rfl (by (try simp only [List.map_toArray,List.map_cons,List.map_nil]);rfl) ?_;(with_reducible refine (spec_l1Cur_pick.calls g s0_0 x1001_2 x1002_2 2 t207 t208 t209 w0 _ ?side1 ?side2 A69.out).mono ?_);(case side1 => exact HI0.out);(case side2 => exact HB.out);rintro e w79 ⟨rfl,hi,hb,hk⟩;refine ⟨_,rfl, ?_⟩;have n0_:=Aside0.mk (Kd.R_mono (Kd.R_keep (IsS51.apart (show IsS51 w0 _ g s0_0 x1001_2 x1002_2 from by exact HI0.out) (by exact HO_3.out) (by decide)) hk (fun _ h => h.2)) (fun _ h => h.1));have n1_:=Aside0.mk (KeepBut.blk hk (g':=gb189) (o := .cells #[.int .i64 ((rd_T41 x3_1 t185).f0), .int .i64 ((rd_T41 x3_1 t185).f1), .bool ((rd_T41 x3_1 t185).f2)] 41 (0,0)) (by exact BK189.out) NB189_0.out (by simp));have n2_:=Aside0.mk (KeepBut.trans (by exact HK.out) hk (.inl rfl));have n3_:=Aside0.mk (hb);have n4_:=Aside0.mk (hi);clear HO_3;clear BK189;clear HK;clear HB;clear HI0;have HO_3:=n0_;have BK189:=n1_;have HK:=n2_;have HB:=n3_;have HI0:=n4_;clear n0_ n1_ n2_ n3_ n4_;(try clear hb);(try clear hk);(try clear hi);have hnb80:=NB189_0.out;have hnc80:=NB0_189.out;have hcz81_0 : w79.cell? ⟨gb189,0,none⟩ = some (.int .i64 ((rd_T41 x3_1 t185).f0)):=(blk_cell BK189.out 0).trans rfl;have hcz81_1 : w79.cell? ⟨gb189,1,none⟩ = some (.int .i64 ((rd_T41 x3_1 t185).f1)):=(blk_cell BK189.out 1).trans rfl;have hcz81_2 : w79.cell? ⟨gb189,2,none⟩ = some (.bool ((rd_T41 x3_1 t185).f2)):=(blk_cell BK189.out 2).trans rfl;have hfz81_0:=blk_frozen BK189.out 0;have hfz81_1:=blk_frozen BK189.out 1;have hfz81_2:=blk_frozen BK189.out 2;have p77 : 0 ≤ (t185 : Int):=of_decide_eq_true (by (with_reducible assumption));have q77 : (t185 : Int) < ((x3_2.length : Int) : Int):=of_decide_eq_true (by (with_reducible assumption));obtain ⟨go77,co77,eo77,gb77,gl77,cl77,HG77⟩ := Kd.R_form HO_3.out (by omega);(cases eo77);have GB77:=Aside0.mk gb77;have GG77:=Aside0.mk HG77;clear gb77 gl77 HG77;obtain ⟨ce77,hcl77,hM77,hcc77,hfr77⟩ := Kd.R_elem HO_3.out z41 (t185 : Int) p77 q77;obtain rfl:=k41_openM hM77;have hx77_0 : w79.cell? ⟨go77,(t185 : Int).toNat * 3,none⟩ = some (.int .i64 ((rd_T41 x3_2 t185).f0)):=hcc77 0 _ rfl;have hx77_1 : w79.cell? ⟨go77,(t185 : Int).toNat * 3 + 1,none⟩ = some (.int .i64 ((rd_T41 x3_2 t185).f1)):=hcc77 1 _ rfl;have hx77_2 : w79.cell? ⟨go77,(t185 : Int).toNat * 3 + 2,none⟩ = some (.bool ((rd_T41 x3_2 t185).f2)):=hcc77 2 _ rfl;have hf77_0 : w79.frozen? ⟨go77,(t185 : Int).toNat * 3,none⟩ = false:=hfr77 0;have hf77_1 : w79.frozen? ⟨go77,(t185 : Int).toNat * 3 + 1,none⟩ = false:=hfr77 1;have hf77_2 : w79.frozen? ⟨go77,(t185 : Int).toNat * 3 + 2,none⟩ = false:=hfr77 2;clear hcl77 hcc77 hfr77;(try clear hM77);replace p77:=eq_true p77;replace q77:=eq_true q77;have HX82:=Aside0.mk (show Kd.R k41 41 w79 w.heap.size (fun k_ => k_ ≠ gb189) (.slice (some ⟨go77,0,none⟩) x3_2.length co78) x3_2 from (by exact HO_3.out));obtain ⟨ce82,hcl82,hM82,hcc82,hfr82⟩ := Kd.R_elem HX82.out z41 (t185 : Int) (of_decide_eq_true (by (with_reducible assumption))) (by have h_ : (t185 : Int) < ((x3_2.length : Int) : Int):=of_decide_eq_true (by (with_reducible assumption));exact h_);obtain rfl:=k41_openM hM82;have HP82:=Kd.R_seg HX82.out (t185 : Int) (of_decide_eq_true (by (with_reducible assumption))) (by have h_ : (t185 : Int) < ((x3_2.length : Int) : Int):=of_decide_eq_true (by (with_reducible assumption));exact h_) (seg := [.int .i64 ((rd_T41 x3_1 t185).f0), .int .i64 ((rd_T41 x3_1 t185).f1), .bool ((rd_T41 x3_1 t185).f2)]) (j:=0) hcl82 hcc82 (show 3 ≤ 3 from by decide) (x':=(⟨((rd_T41 x3_1 t185).f0),((rd_T41 x3_1 t185).f1),((rd_T41 x3_1 t185).f2)⟩ : S41)) (k41_mkM _ _ _ (⟨((rd_T41 x3_1 t185).f0),((rd_T41 x3_1 t185).f1),((rd_T41 x3_1 t185).f2)⟩ : S41) ) (fun _ hk => hk);have hx82_0:=hcc82 0 _ rfl;(try simp only [show (k41).sz = 3 from rfl,Nat.mul_one,Nat.add_zero] at hx82_0);have hf82_0:=hfr82 0;(try simp only [show (k41).sz = 3 from rfl,Nat.mul_one,Nat.add_zero] at hf82_0);have hx82_1:=hcc82 1 _ rfl;(try simp only [show (k41).sz = 3 from rfl,Nat.mul_one,Nat.add_zero] at hx82_1);have hf82_1:=hfr82 1;(try simp only [show (k41).sz = 3 from rfl,Nat.mul_one,Nat.add_zero] at hf82_1);have hx82_2:=hcc82 2 _ rfl;(try simp only [show (k41).sz = 3 from rfl,Nat.mul_one,Nat.add_zero] at hx82_2);have hf82_2:=hfr82 2;(try simp only [show (k41).sz = 3 from rfl,Nat.mul_one,Nat.add_zero] at hf82_2);clear hcl82 hcc82 hfr82;(try clear hM82)) | ((with_reducible refine gate_store (t:=41) (p:=77) rfl ?_);refine store_event (t:=41) (p:=77) (v:=?vo_w83) (w1:=(((w79.setCell ⟨go77,(t185 : Int).toNat * 3,none⟩ (.int .i64 ((rd_T41 x3_1 t185).f0))).setCell ⟨go77,(t185 : Int).toNat * 3 + 1,none⟩ (.int .i64 ((rd_T41 x3_1 t185).f1))).setCell ⟨go77,(t185 : Int).toNat * 3 + 2,none⟩ (.bool ((rd_T41 x3_1 t185).f2)))) ?hg ?ho ?hn ?hr ?_;(case ho => rfl);(case hg => rfl);(case hn => rfl);(case hr => (go_simp;done));intro w83 hw;have hg : w79.grownBy w83 (some go77):=(by rw [hw];exact HP82.2);have hp_ : Kd.R k41 41 w83 w.heap.size (fun k_ => k_ ≠ gb189) (.slice (some ⟨go77,0,none⟩) x3_2.length co78) y213:=(by rw [hw,Ny213.out];exact HP82.1);clear HP82;have n0_:=Aside0.mk (hp_);have n1_:=Aside0.mk (blk_grown (g:=gb189) (o := .cells #[.int .i64 ((rd_T41 x3_1 t185).f0), .int .i64 ((rd_T41 x3_1 t185).f1), .bool ((rd_T41 x3_1 t185).f2)] 41 (0,0)) (by exact BK189.out) hg (Kd.R_away HO_3.out (fun _ hk => hk)));have n2_:=Aside0.mk (IsS51.grownX4 HI0.out (by exact HI0.out) hg (IsS51.own_ne HI0.out HO_3.out (by decide)));have n3_:=Aside0.mk ((by rw [hw];exact below_set (below_set (below_set (HB.out) (Nat.le_trans HL.out GB77.out)) (Nat.le_trans HL.out GB77.out)) (Nat.le_trans HL.out GB77.out) : Below w0.heap.size w0 w83));have n4_:=Aside0.mk (KeepBut.trans (by exact HK.out) (KeepBut.of_grown hg g) (Kd.R_base2 HO_3.out));clear HO_3;clear BK189;clear HI0;clear HB;clear HK;have HO_3:=n0_;have BK189:=n1_;have HI0:=n2_;have HB:=n3_;have HK:=n4_;clear n0_ n1_ n2_ n3_ n4_;clear hg hw hp_))
               go_ret
               exact ⟨_,by rfl,by exact Kd.R_mono HO_3.out (fun _ hk => trivial),by exact HI0.out,by exact HB.out,by exact HK.out⟩
              ·rw [if_neg c76] at H
               exact absurd H (by simp)
             ·rw [if_neg c75] at H
              exact absurd H (by simp)
         ·rw [if_neg c62] at H
          have c62b0 : (t190 == 2) = false:=beq_eq_false_iff_ne.mpr c62
          have c62b1 : (t190 != 2) = true:=bne_iff_ne.mpr c62
          obtain ⟨y214,hy214⟩ : ∃ y_ : List (S41),y_ = (x3_1.set (t185 : Int).toNat (⟨(rd_T41 x3_1 t185).f0,(rd_T41 x3_1 t185).f1,(rd_T41 x3_1 t185).f2⟩ : S41)):=⟨_,rfl⟩
          replace H : (some (y214,t191,t192)) = some (r1,r2,r3):=by (rw [hy214];with_reducible exact H)
          have Ny214:=Aside0.mk hy214
          clear hy214
          simp only [Option.some.injEq,Prod.mk.injEq] at H
          obtain ⟨rfl,rfl,rfl⟩ := H
          obtain ⟨Ao85,co85,eo85⟩ := Kd.R_slice HO_3.out
          subst eo85
          go_wp2_with (first | ((with_reducible refine gate_callee (f:=28) rfl ?_);refine goesL_ (some 40) rfl rfl Tryd.func28 (by kernel_rfl) rfl #[.pointer (some ⟨g,0,none⟩), .int .i64 (x3_1.length : Int)] rfl (by (try simp only [List.map_toArray,List.map_cons,List.map_nil]);rfl) ?_;(with_reducible refine (spec_l1Cur_pick.calls g s0_0 x1001_1 x1002_1 (x3_1.length : Int) t185 t186 t187 w0 _ ?side1 ?side2 A22.out).mono ?_);(case side1 => exact HI0.out);(case side2 => exact HB.out);rintro e w86 ⟨rfl,hi,hb,hk⟩;refine ⟨_,rfl, ?_⟩;have n0_:=Aside0.mk (Kd.R_mono (Kd.R_keep (IsS51.apart (show IsS51 w0 _ g s0_0 x1001_1 x1002_1 from by exact HI0.out) (by exact HO_3.out) (by decide)) hk (fun _ h => h.2)) (fun _ h => h.1));have n1_:=Aside0.mk (KeepBut.trans (by exact HK.out) hk (.inl rfl));have n2_:=Aside0.mk (hb);have n3_:=Aside0.mk (hi);clear HO_3;clear HK;clear HB;clear HI0;have HO_3:=n0_;have HK:=n1_;have HB:=n2_;have HI0:=n3_;clear n0_ n1_ n2_ n3_;(try clear hb);(try clear hk);(try clear hi);have p188 : 0 ≤ (t185 : Int):=of_decide_eq_true (by (with_reducible assumption));have q188 : t185 < (x3_1.length : Int):=of_decide_eq_true (by (with_reducible assumption));obtain ⟨ad188,e188,hx188_0,hx188_1,hx188_2⟩ := at_T41 (Kd.R_reads' HO_3.out).2.2 t185 p188 q188;cases e188;replace p188:=eq_true p188;replace q188:=eq_true q188) | ((with_reducible refine gate_dst (N:=7) rfl ?_);refine box_event ?hg (N:=7) ?hd (cs:=#[.int .i64 0, .int .i64 0, .bool false]) (t:=41) ?hr ?_;(case hd => rfl);(case hg => rfl);(case hr => (go_simp;done));intro gb189 hg w87 hbox hb;have n0_:=Aside0.mk (Kd.R_below (Kd.R_elderB (by exact HO_3.out) gb189 (Nat.le_of_eq hg.symm)) hb);have n1_:=Aside0.mk (IsS51.below (by exact HI0.out) hb);have n2_:=Aside0.mk (KeepBut.trans (by exact HK.out) (KeepBut.of_below hb g none) (.inl rfl));have n3_:=Aside0.mk (below_step (by exact HB.out) hb);have n4_:=Aside0.mk (hbox);have n5_:=Aside0.mk ((by rw [hg];exact (keep_size (w:=w) (g:=g) (row:=none) (by exact HK.out)) : w.heap.size ≤ gb189));have n6_:=Aside0.mk ((Nat.le_trans HW0.out (by rw [hg];exact (keep_size (w:=w) (g:=g) (row:=none) (by exact HK.out)) : w.heap.size ≤ gb189) : w0.heap.size ≤ gb189));have n7_:=Aside0.mk ((by rw [hg];exact Nat.ne_of_lt (IsS51.lt (show IsS51 w0 _ g s0_0 t186 t187 from by exact HI0.out)) : g ≠ gb189));have n8_:=Aside0.mk ((by rw [hg];exact Nat.ne_of_gt (IsS51.lt (show IsS51 w0 _ g s0_0 t186 t187 from by exact HI0.out)) : gb189 ≠ g));clear HO_3;clear HI0;clear HK;clear HB;have HO_3:=n0_;have HI0:=n1_;have HK:=n2_;have HB:=n3_;have BK189:=n4_;have GW189:=n5_;have GE189:=n6_;have NB0_189:=n7_;have NB189_0:=n8_;clear n0_ n1_ n2_ n3_ n4_ n5_ n6_ n7_ n8_;clear hb hbox hg;have hnb88:=NB189_0.out;have hnc88:=NB0_189.out;have hcz89_0 : w87.cell? ⟨gb189,0,none⟩ = some (.int .i64 0):=(blk_cell BK189.out 0).trans rfl;have hcz89_1 : w87.cell? ⟨gb189,1,none⟩ = some (.int .i64 0):=(blk_cell BK189.out 1).trans rfl;have hcz89_2 : w87.cell? ⟨gb189,2,none⟩ = some (.bool false):=(blk_cell BK189.out 2).trans rfl;have hfz89_0:=blk_frozen BK189.out 0;have hfz89_1:=blk_frozen BK189.out 1;have hfz89_2:=blk_frozen BK189.out 2) | ((with_reducible refine gate_callee (f:=28) rfl ?_);refine goesL_ (some 46) rfl rfl Tryd.func28 (by kernel_rfl) rfl #[.pointer (some ⟨g,0,none⟩), .int .i64 40] rfl (by (try simp only [List.map_toArray,List.map_cons,List.map_nil]);rfl) ?_;(with_reducible refine (spec_l1Cur_pick.calls g s0_0 t186 t187 40 t190 t191 t192 w0 _ ?side1 ?side2 A25.out).mono ?_);(case side1 => repeat ((with_reducible first | exact HI0.out | refine IsS51.far ?_ NB0_189.out _)));(case side2 => repeat ((with_reducible first | exact HB.out | refine below_set ?_ GE189.out)));rintro e w90 ⟨rfl,hi,hb,hk⟩;refine ⟨_,rfl, ?_⟩;have n0_:=Aside0.mk (Kd.R_mono (Kd.R_keep (IsS51.apart (show IsS51 w0 _ g s0_0 t186 t187 from by repeat ((with_reducible first | exact HI0.out | refine IsS51.far ?_ NB0_189.out _))) (by exact (Kd.R_mono (Kd.R_far (p:=⟨gb189,2,none⟩) (Kd.R_far (p:=⟨gb189,1,none⟩) (Kd.R_far (p:=⟨gb189,0,none⟩) (Kd.R_mono HO_3.out (fun k_ hk => (⟨hk,hk.2⟩ : _ ∧ k_ ≠ gb189))) (fun _ hk => hk.2) (.int .i64 ((rd_T41 x3_1 t185).f0))) (fun _ hk => hk.2) (.int .i64 ((rd_T41 x3_1 t185).f1))) (fun _ hk => hk.2) (.bool ((rd_T41 x3_1 t185).f2))) (fun _ h_ => h_.1))) (by decide)) hk (fun _ h => h.2)) (fun _ h => h.1));have n1_:=Aside0.mk (KeepBut.blk hk (g':=gb189) (o := .cells #[.int .i64 ((rd_T41 x3_1 t185).f0), .int .i64 ((rd_T41 x3_1 t185).f1), .bool ((rd_T41 x3_1 t185).f2)] 41 (0,0)) (by refine blk_put (cs:=#[.int .i64 ((rd_T41 x3_1 t185).f0), .int .i64 ((rd_T41 x3_1 t185).f1), .bool false]) ?_ 2 _ rfl;refine blk_put (cs:=#[.int .i64 ((rd_T41 x3_1 t185).f0), .int .i64 0, .bool false]) ?_ 1 _ rfl;refine blk_put (cs:=#[.int .i64 0, .int .i64 0, .bool false]) ?_ 0 _ rfl;exact BK189.out) NB189_0.out (by simp));have n2_:=Aside0.mk (KeepBut.trans (by repeat ((with_reducible first | exact HK.out | refine keep_far ?_ GW189.out _))) hk (.inl rfl));have n3_:=Aside0.mk (hb);have n4_:=Aside0.mk (hi);clear HO_3;clear BK189;clear HK;clear HB;clear HI0;have HO_3:=n0_;have BK189:=n1_;have HK:=n2_;have HB:=n3_;have HI0:=n4_;clear n0_ n1_ n2_ n3_ n4_;(try clear hb);(try clear hk);(try clear hi);have hcz91_0 : w90.cell? ⟨gb189,0,none⟩ = some (.int .i64 ((rd_T41 x3_1 t185).f0)):=(blk_cell BK189.out 0).trans rfl;have hcz91_1 : w90.cell? ⟨gb189,1,none⟩ = some (.int .i64 ((rd_T41 x3_1 t185).f1)):=(blk_cell BK189.out 1).trans rfl;have hcz91_2 : w90.cell? ⟨gb189,2,none⟩ = some (.bool ((rd_T41 x3_1 t185).f2)):=(blk_cell BK189.out 2).trans rfl;have hfz91_0:=blk_frozen BK189.out 0;have hfz91_1:=blk_frozen BK189.out 1;have hfz91_2:=blk_frozen BK189.out 2;have p84 : 0 ≤ (t185 : Int):=of_decide_eq_true (by (with_reducible assumption));have q84 : (t185 : Int) < ((x3_1.length : Int) : Int):=of_decide_eq_true (by (with_reducible assumption));obtain ⟨go84,co84,eo84,gb84,gl84,cl84,HG84⟩ := Kd.R_form HO_3.out (by omega);(cases eo84);have GB84:=Aside0.mk gb84;have GG84:=Aside0.mk HG84;clear gb84 gl84 HG84;(simp only [add_plain] at hx188_0);(simp only [add_plain] at hx188_1);(simp only [add_plain] at hx188_2);obtain ⟨ce84,hcl84,hM84,hcc84,hfr84⟩ := Kd.R_elem HO_3.out z41 (t185 : Int) p84 q84;obtain rfl:=k41_openM hM84;have hx84_0 : w90.cell? ⟨go84,(t185 : Int).toNat * 3,none⟩ = some (.int .i64 ((rd_T41 x3_1 t185).f0)):=hcc84 0 _ rfl;have hx84_1 : w90.cell? ⟨go84,(t185 : Int).toNat * 3 + 1,none⟩ = some (.int .i64 ((rd_T41 x3_1 t185).f1)):=hcc84 1 _ rfl;have hx84_2 : w90.cell? ⟨go84,(t185 : Int).toNat * 3 + 2,none⟩ = some (.bool ((rd_T41 x3_1 t185).f2)):=hcc84 2 _ rfl;have hf84_0 : w90.frozen? ⟨go84,(t185 : Int).toNat * 3,none⟩ = false:=hfr84 0;have hf84_1 : w90.frozen? ⟨go84,(t185 : Int).toNat * 3 + 1,none⟩ = false:=hfr84 1;have hf84_2 : w90.frozen? ⟨go84,(t185 : Int).toNat * 3 + 2,none⟩ = false:=hfr84 2;clear hcl84 hcc84 hfr84;(try clear hM84);replace p84:=eq_true p84;replace q84:=eq_true q84;have n_:=Aside0.mk (Kd.R_mono (ok':=(fun k_ => k_ ≠ gb189)) HO_3.out (fun k_ hk => hk.2));clear HO_3;have HO_3:=n_;clear n_;have HX92:=Aside0.mk (show Kd.R k41 41 w90 w.heap.size (fun k_ => k_ ≠ gb189) (.slice (some ⟨go84,0,none⟩) x3_1.length co85) x3_1 from (by exact HO_3.out));obtain ⟨ce92,hcl92,hM92,hcc92,hfr92⟩ := Kd.R_elem HX92.out z41 (t185 : Int) (of_decide_eq_true (by (with_reducible assumption))) (by have h_ : (t185 : Int) < ((x3_1.length : Int) : Int):=of_decide_eq_true (by (with_reducible assumption));exact h_);obtain rfl:=k41_openM hM92;have HP92:=Kd.R_seg HX92.out (t185 : Int) (of_decide_eq_true (by (with_reducible assumption))) (by have h_ : (t185 : Int) < ((x3_1.length : Int) : Int):=of_decide_eq_true (by (with_reducible assumption));exact h_) (seg := [.int .i64 ((rd_T41 x3_1 t185).f0), .int .i64 ((rd_T41 x3_1 t185).f1), .bool ((rd_T41 x3_1 t185).f2)]) (j:=0) hcl92 hcc92 (show 3 ≤ 3 from by decide) (x':=(⟨(rd_T41 x3_1 t185).f0,(rd_T41 x3_1 t185).f1,(rd_T41 x3_1 t185).f2⟩ : S41)) (k41_mkM _ _ _ (⟨(rd_T41 x3_1 t185).f0,(rd_T41 x3_1 t185).f1,(rd_T41 x3_1 t185).f2⟩ : S41) ) (fun _ hk => hk);have hx92_0:=hcc92 0 _ rfl;(try simp only [show (k41).sz = 3 from rfl,Nat.mul_one,Nat.add_zero] at hx92_0);have hf92_0:=hfr92 0;(try simp only [show (k41).sz = 3 from rfl,Nat.mul_one,Nat.add_zero] at hf92_0);have hx92_1:=hcc92 1 _ rfl;(try simp only [show (k41).sz = 3 from rfl,Nat.mul_one,Nat.add_zero] at hx92_1);have hf92_1:=hfr92 1;(try simp only [show (k41).sz = 3 from rfl,Nat.mul_one,Nat.add_zero] at hf92_1);have hx92_2:=hcc92 2 _ rfl;(try simp only [show (k41).sz = 3 from rfl,Nat.mul_one,Nat.add_zero] at hx92_2);have hf92_2:=hfr92 2;(try simp only [show (k41).sz = 3 from rfl,Nat.mul_one,Nat.add_zero] at hf92_2);clear hcl92 hcc92 hfr92;(try clear hM92)) | ((with_reducible refine gate_store (t:=41) (p:=77) rfl ?_);refine store_event (t:=41) (p:=77) (v:=?vo_w93) (w1:=(((w90.setCell ⟨go84,(t185 : Int).toNat * 3,none⟩ (.int .i64 ((rd_T41 x3_1 t185).f0))).setCell ⟨go84,(t185 : Int).toNat * 3 + 1,none⟩ (.int .i64 ((rd_T41 x3_1 t185).f1))).setCell ⟨go84,(t185 : Int).toNat * 3 + 2,none⟩ (.bool ((rd_T41 x3_1 t185).f2)))) ?hg ?ho ?hn ?hr ?_;(case ho => rfl);(case hg => rfl);(case hn => rfl);(case hr => (go_simp;done));intro w93 hw;have hg : w90.grownBy w93 (some go84):=(by rw [hw];exact HP92.2);have hp_ : Kd.R k41 41 w93 w.heap.size (fun k_ => k_ ≠ gb189) (.slice (some ⟨go84,0,none⟩) x3_1.length co85) y214:=(by rw [hw,Ny214.out];exact HP92.1);clear HP92;have n0_:=Aside0.mk (hp_);have n1_:=Aside0.mk (IsS51.grownX4 HI0.out (by exact HI0.out) hg (IsS51.own_ne HI0.out HO_3.out (by decide)));have n2_:=Aside0.mk (blk_grown (g:=gb189) (o := .cells #[.int .i64 ((rd_T41 x3_1 t185).f0), .int .i64 ((rd_T41 x3_1 t185).f1), .bool ((rd_T41 x3_1 t185).f2)] 41 (0,0)) (by exact BK189.out) hg (Kd.R_away HO_3.out (fun _ hk => hk)));have n3_:=Aside0.mk ((by rw [hw];exact below_set (below_set (below_set (HB.out) (Nat.le_trans HL.out GB84.out)) (Nat.le_trans HL.out GB84.out)) (Nat.le_trans HL.out GB84.out) : Below w0.heap.size w0 w93));have n4_:=Aside0.mk (KeepBut.trans (by exact HK.out) (KeepBut.of_grown hg g) (Kd.R_base2 HO_3.out));clear HO_3;clear HI0;clear BK189;clear HB;clear HK;have HO_3:=n0_;have HI0:=n1_;have BK189:=n2_;have HB:=n3_;have HK:=n4_;clear n0_ n1_ n2_ n3_ n4_;clear hg hw hp_))
          go_ret
          exact ⟨_,by rfl,by exact Kd.R_mono HO_3.out (fun _ hk => trivial),by exact HI0.out,by exact HB.out,by exact HK.out⟩
      ·rw [if_neg c24] at H
       exact absurd H (by simp)
     ·rw [if_neg c23] at H
      exact absurd H (by simp)

/-! ### spec_DrawBadReadings: function 31 -/
def spec_DrawBadReadings.f (k : Nat) (l0 : List Int) : Option ((List (S41)) × Int × Int):=(spec_l1Cur_readings.f k l0 0 0).bind fun bt216 => ((spec_l1Cur_among.f l0 bt216.2.1 bt216.2.2 (([(-180),(-180),(-200),0,300,(-301)] : List Int))).bind fun bt224 => ((some (([0,5,10,20,100,(-1),101] : List Int) : List Int)).bind fun y227 => ((spec_l1Cur_pick.f l0 bt224.2.1 bt224.2.2 24).bind fun bt230 => (if 0 ≤ (wrap64 (5 + (wrap64 (Int.tdiv bt230.1 11)))) then (if (wrap64 (5 + (wrap64 (Int.tdiv bt230.1 11)))) ≤ (y227.length : Int) then ((spec_l1Cur_among.f l0 bt230.2.1 bt230.2.2 (y227.take ((wrap64 (5 + (wrap64 (Int.tdiv bt230.1 11)))) : Int).toNat)).bind fun bt237 => (some (bt216.1,bt224.1,bt237.1))) else (none)) else (none)))))
theorem spec_DrawBadReadings.mono : ∀ a0 k,LeO (spec_DrawBadReadings.f k a0) (spec_DrawBadReadings.f (k + 1) a0):=by
 intro a0 k
 unfold spec_DrawBadReadings.f
 repeat' first
   | (with_reducible exact spec_l1Cur_readings.mono _ _ _ _)
   | (with_reducible exact LeO.refl _)
   | (with_reducible exact LeO.none _)
   | (with_reducible refine LeO.ite ?_ ?_)
   | (with_reducible refine LeO.bind ?_ (fun _ => ?_))
   | exact spec_l1Cur_readings.mono _ _ _ _
   | exact LeO.none _
   | refine LeO.ite ?_ ?_
   | refine LeO.bind ?_ (fun _ => ?_)
set_option maxHeartbeats 8000000 in
set_option maxRecDepth 100000 in
theorem spec_DrawBadReadings.calls (k : Nat) (A0 : Option Addr) (c0 : Nat) (l0 : List Int) (r1 : List (S41)) (r2 : Int) (r3 : Int) (w : World) (hr0 : Kd.C (Kd.int .u8) w A0 l0.length l0) (hc0 : l0.length ≤ c0) (h : spec_DrawBadReadings.f k l0 = some (r1,r2,r3)) :
  Calls Tryd.prog 31 #[.slice A0 l0.length c0] w fun e w' => ∃ v0_ : Value,e = .returned (.tuple #[v0_, .int .i64 r2, .int .i64 r3]) ∧ Kd.R k41 41 w' w.heap.size (fun _ => True) v0_ r1 ∧ Below w.heap.size w w':=by
 have hu51:=Tryd.underlying51
 have HR0:=Aside0.mk hr0
 have HC0:=Aside0.mk hc0
 clear hr0 hc0
 have HB:=Aside0.mk (Below.refl w.heap.size w)
 have H : ((spec_l1Cur_readings.f k l0 0 0).bind fun bt216 => ((spec_l1Cur_among.f l0 bt216.2.1 bt216.2.2 (([(-180),(-180),(-200),0,300,(-301)] : List Int))).bind fun bt224 => ((some (([0,5,10,20,100,(-1),101] : List Int) : List Int)).bind fun y227 => ((spec_l1Cur_pick.f l0 bt224.2.1 bt224.2.2 24).bind fun bt230 => (if 0 ≤ (wrap64 (5 + (wrap64 (Int.tdiv bt230.1 11)))) then (if (wrap64 (5 + (wrap64 (Int.tdiv bt230.1 11)))) ≤ (y227.length : Int) then ((spec_l1Cur_among.f l0 bt230.2.1 bt230.2.2 (y227.take ((wrap64 (5 + (wrap64 (Int.tdiv bt230.1 11)))) : Int).toNat)).bind fun bt237 => (some (bt216.1,bt224.1,bt237.1))) else (none)) else (none)))))) = some (r1,r2,r3):=h
 clear h
 replace H:=Option.bind_eq_some_iff.mp H
 obtain ⟨⟨t216,t219,t220⟩,A20,H⟩ := H
 replace H : ((spec_l1Cur_among.f l0 t219 t220 (([(-180),(-180),(-200),0,300,(-301)] : List Int))).bind fun bt224 => ((some (([0,5,10,20,100,(-1),101] : List Int) : List Int)).bind fun y227 => ((spec_l1Cur_pick.f l0 bt224.2.1 bt224.2.2 24).bind fun bt230 => (if 0 ≤ (wrap64 (5 + (wrap64 (Int.tdiv bt230.1 11)))) then (if (wrap64 (5 + (wrap64 (Int.tdiv bt230.1 11)))) ≤ (y227.length : Int) then ((spec_l1Cur_among.f l0 bt230.2.1 bt230.2.2 (y227.take ((wrap64 (5 + (wrap64 (Int.tdiv bt230.1 11)))) : Int).toNat)).bind fun bt237 => (some (t216,bt224.1,bt237.1))) else (none)) else (none))))) = some (r1,r2,r3):=H
 have A2:=Aside0.mk A20
 clear A20
 obtain ⟨y221,hy221⟩ : ∃ y_ : List Int,y_ = (([(-180),(-180),(-200),0,300,(-301)] : List Int)):=⟨_,rfl⟩
 replace H : ((spec_l1Cur_among.f l0 t219 t220 y221).bind fun bt224 => ((some (([0,5,10,20,100,(-1),101] : List Int) : List Int)).bind fun y227 => ((spec_l1Cur_pick.f l0 bt224.2.1 bt224.2.2 24).bind fun bt230 => (if 0 ≤ (wrap64 (5 + (wrap64 (Int.tdiv bt230.1 11)))) then (if (wrap64 (5 + (wrap64 (Int.tdiv bt230.1 11)))) ≤ (y227.length : Int) then ((spec_l1Cur_among.f l0 bt230.2.1 bt230.2.2 (y227.take ((wrap64 (5 + (wrap64 (Int.tdiv bt230.1 11)))) : Int).toNat)).bind fun bt237 => (some (t216,bt224.1,bt237.1))) else (none)) else (none))))) = some (r1,r2,r3):=by (rw [hy221];with_reducible exact H)
 have Ny221:=Aside0.mk hy221
 clear hy221
 replace H:=Option.bind_eq_some_iff.mp H
 obtain ⟨⟨t224,t225,t226⟩,A30,H⟩ := H
 replace H : ((some (([0,5,10,20,100,(-1),101] : List Int) : List Int)).bind fun y227 => ((spec_l1Cur_pick.f l0 t225 t226 24).bind fun bt230 => (if 0 ≤ (wrap64 (5 + (wrap64 (Int.tdiv bt230.1 11)))) then (if (wrap64 (5 + (wrap64 (Int.tdiv bt230.1 11)))) ≤ (y227.length : Int) then ((spec_l1Cur_among.f l0 bt230.2.1 bt230.2.2 (y227.take ((wrap64 (5 + (wrap64 (Int.tdiv bt230.1 11)))) : Int).toNat)).bind fun bt237 => (some (t216,t224,bt237.1))) else (none)) else (none)))) = some (r1,r2,r3):=H
 have A3:=Aside0.mk A30
 clear A30
 obtain ⟨y227,hy227⟩ : ∃ y_ : List Int,y_ = (([0,5,10,20,100,(-1),101] : List Int)):=⟨_,rfl⟩
 replace H : ((spec_l1Cur_pick.f l0 t225 t226 24).bind fun bt230 => (if 0 ≤ (wrap64 (5 + (wrap64 (Int.tdiv bt230.1 11)))) then (if (wrap64 (5 + (wrap64 (Int.tdiv bt230.1 11)))) ≤ (y227.length : Int) then ((spec_l1Cur_among.f l0 bt230.2.1 bt230.2.2 (y227.take ((wrap64 (5 + (wrap64 (Int.tdiv bt230.1 11)))) : Int).toNat)).bind fun bt237 => (some (t216,t224,bt237.1))) else (none)) else (none))) = some (r1,r2,r3):=by (have H2_:=(Option.bind_some _ _).symm.trans H;rw [hy227];with_reducible exact H2_)
 have Ny227:=Aside0.mk hy227
 clear hy227
 replace H:=Option.bind_eq_some_iff.mp H
 obtain ⟨⟨t230,t231,t232⟩,A40,H⟩ := H
 replace H : (if 0 ≤ (wrap64 (5 + (wrap64 (Int.tdiv t230 11)))) then (if (wrap64 (5 + (wrap64 (Int.tdiv t230 11)))) ≤ (y227.length : Int) then ((spec_l1Cur_among.f l0 t231 t232 (y227.take ((wrap64 (5 + (wrap64 (Int.tdiv t230 11)))) : Int).toNat)).bind fun bt237 => (some (t216,t224,bt237.1))) else (none)) else (none)) = some (r1,r2,r3):=H
 have A4:=Aside0.mk A40
 clear A40
 obtain ⟨ji5,hji5⟩ : ∃ j_ : Int,(wrap64 (5 + (wrap64 (Int.tdiv t230 11)))) = j_:=⟨_,rfl⟩
 replace H : (if 0 ≤ (ji5) then (if (ji5) ≤ (y227.length : Int) then ((spec_l1Cur_among.f l0 t231 t232 (y227.take ((ji5) : Int).toNat)).bind fun bt237 => (some (t216,t224,bt237.1))) else (none)) else (none)) = some (r1,r2,r3):=by (rw [hji5] at H;exact H)
 (skip)
 (skip)
 (skip)
 have hji5w : (IntKind.i64.wrap (5 + (wrap64 (Int.tdiv t230 11)))) = ji5:=(i64_w _).trans hji5
 by_cases c6 : 0 ≤ (ji5)
 ·rw [if_pos c6] at H
  have c6b0:=eq_true c6
  have c6b1 : decide (0 ≤ (ji5)) = true:=decide_eq_true c6
  clear c6
  by_cases c7 : (ji5) ≤ (y227.length : Int)
  ·rw [if_pos c7] at H
   have c7b0:=eq_true c7
   have c7b1 : decide ((ji5) ≤ (y227.length : Int)) = true:=decide_eq_true c7
   clear c7
   obtain ⟨y233,hy233⟩ : ∃ y_ : List Int,y_ = (y227.take ((ji5) : Int).toNat):=⟨_,rfl⟩
   replace H : ((spec_l1Cur_among.f l0 t231 t232 y233).bind fun bt237 => (some (t216,t224,bt237.1))) = some (r1,r2,r3):=by (rw [hy233];with_reducible exact H)
   have Ny233:=Aside0.mk hy233
   clear hy233
   replace H:=Option.bind_eq_some_iff.mp H
   obtain ⟨⟨t237,t238,t239⟩,A80,H⟩ := H
   replace H : (some (t216,t224,t237)) = some (r1,r2,r3):=H
   have A8:=Aside0.mk A80
   clear A80
   simp only [Option.some.injEq,Prod.mk.injEq] at H
   obtain ⟨rfl,rfl,rfl⟩ := H
   go_enter Tryd.func31,Tryd.ntmps31
   go_wp2_with (first | ((with_reducible refine gate_dst (N:=9) rfl ?_);refine box_event ?hg (N:=9) ?hd (cs:=#[.slice A0 l0.length c0, .int .i64 0, .int .u64 0]) (t:=51) ?hr ?_;(case hd => rfl);(case hg => rfl);(case hr => (go_simp;done));intro gb215 hg w9 hbox hb;have n0_:=Aside0.mk (below_step (by exact HB.out) hb);have n1_:=Aside0.mk ((show IsS51 w _ gb215 l0 0 0 from ⟨_,_,hbox,(by rw [hg];exact (below_size (by exact HB.out)) : w.heap.size ≤ gb215),HR0.out⟩));clear HB;have HB:=n0_;have HI215:=n1_;clear n0_ n1_;clear hb hbox hg) | ((with_reducible refine gate_callee (f:=36) rfl ?_);refine goesL_ (some 11) rfl rfl Tryd.func36 (by kernel_rfl) rfl #[.pointer (some ⟨gb215,0,none⟩)] rfl (by (try simp only [List.map_toArray,List.map_cons,List.map_nil]);rfl) ?_;(with_reducible refine (spec_l1Cur_readings.calls k gb215 l0 0 0 t216 t219 t220 w _ ?side1 ?side2 A2.out).mono ?_);(case side1 => exact HI215.out);(case side2 => exact HB.out);rintro e w10 ⟨v217,rfl,ho0,hi,hb,hk⟩;refine ⟨_,rfl, ?_⟩;have n0_:=Aside0.mk (Kd.R_lower ho0 (below_size (by exact HB.out)));have n1_:=Aside0.mk (hb);have n2_:=Aside0.mk (hi);clear HB;clear HI215;have HO218:=n0_;have HB:=n1_;have HI215:=n2_;clear n0_ n1_ n2_;(try clear hb);(try clear hk);(try clear hi);(try clear ho0)) | ((with_reducible refine gate_dst (N:=14) rfl ?_);refine Kd.R_lit (Kd.int .i64) _ 3 ?hg (N:=14) ?hd (xs:=([(-180),(-180),(-200),0,300,(-301)] : List Int)) (inner := [.int .i64 (-180), .int .i64 (-180), .int .i64 (-200), .int .i64 0, .int .i64 300, .int .i64 (-301)]) (ok:=fun _ => True) (okp:=fun _ => True) ?hr ?hp (fun _ hk => hk) trivial (Below.refl _ _) (Nat.le_refl _) (by simp) ?_;(case hd => rfl);(case hg => rfl);(case hr => (go_simp;done));(case hp => exact (Reps.one (show Kd.M (Kd.int .i64) _ _ _ (-180) [.int .i64 (-180)] from rfl) (Reps.one (show Kd.M (Kd.int .i64) _ _ _ (-180) [.int .i64 (-180)] from rfl) (Reps.one (show Kd.M (Kd.int .i64) _ _ _ (-200) [.int .i64 (-200)] from rfl) (Reps.one (show Kd.M (Kd.int .i64) _ _ _ 0 [.int .i64 0] from rfl) (Reps.one (show Kd.M (Kd.int .i64) _ _ _ 300 [.int .i64 300] from rfl) (Reps.one (show Kd.M (Kd.int .i64) _ _ _ (-301) [.int .i64 (-301)] from rfl) (Reps.none _ _))))))));intro v222 w11 ho12 hb hg_ hnew_;clear hg_ hnew_;(rw [← Ny221.out] at ho12);have n0_:=Aside0.mk (Kd.R_below (by exact HO218.out) hb);have n1_:=Aside0.mk (Kd.R_lower ho12 (below_size (by exact HB.out)));have n2_:=Aside0.mk (IsS51.below (by exact HI215.out) hb);have n3_:=Aside0.mk (below_step (by exact HB.out) hb);clear HO218;clear HI215;clear HB;have HO218:=n0_;have HO223:=n1_;have HI215:=n2_;have HB:=n3_;clear n0_ n1_ n2_ n3_;clear hb ho12;obtain ⟨Ao13,co13,eo13⟩ := Kd.R_slice HO223.out;subst eo13) | ((with_reducible refine gate_callee (f:=23) rfl ?_);refine goesL_ (some 15) rfl rfl Tryd.func23 (by kernel_rfl) rfl #[.pointer (some ⟨gb215,0,none⟩), .slice Ao13 y221.length co13] rfl (by (try simp only [List.map_toArray,List.map_cons,List.map_nil]);rfl) ?_;(with_reducible refine (spec_l1Cur_among.calls gb215 l0 t219 t220 _ _ y221 t224 t225 t226 w _ ?side1 ?side2 ?side3 ?side4 ?side5 A3.out).mono ?_);(case side1 => exact HI215.out);(case side2 => exact HB.out);(case side3 => repeat (exact (Kd.R_reads' HO223.out).2.2));(case side4 => exact (Kd.R_reads' HO223.out).2.1);(case side5 => exact far_slice (IsS51.own_ne HI215.out HO223.out (by decide)));rintro e w14 ⟨rfl,hi,hb,hk⟩;refine ⟨_,rfl, ?_⟩;have n0_:=Aside0.mk (Kd.R_mono (Kd.R_keep (IsS51.apart (show IsS51 w _ gb215 l0 t219 t220 from by exact HI215.out) (by exact HO218.out) (by decide)) hk (fun _ h => h.2)) (fun _ h => h.1));have n1_:=Aside0.mk (Kd.R_mono (Kd.R_keep (IsS51.apart (show IsS51 w _ gb215 l0 t219 t220 from by exact HI215.out) (by exact HO223.out) (by decide)) hk (fun _ h => h.2)) (fun _ h => h.1));have n2_:=Aside0.mk (hb);have n3_:=Aside0.mk (hi);clear HO218;clear HO223;clear HB;clear HI215;have HO218:=n0_;have HO223:=n1_;have HB:=n2_;have HI215:=n3_;clear n0_ n1_ n2_ n3_;(try clear hb);(try clear hk);(try clear hi)) | ((with_reducible refine gate_dst (N:=17) rfl ?_);refine Kd.R_lit (Kd.int .i64) _ 3 ?hg (N:=17) ?hd (xs:=([0,5,10,20,100,(-1),101] : List Int)) (inner := [.int .i64 0, .int .i64 5, .int .i64 10, .int .i64 20, .int .i64 100, .int .i64 (-1), .int .i64 101]) (ok:=fun _ => True) (okp:=fun _ => True) ?hr ?hp (fun _ hk => hk) trivial (Below.refl _ _) (Nat.le_refl _) (by simp) ?_;(case hd => rfl);(case hg => rfl);(case hr => (go_simp;done));(case hp => exact (Reps.one (show Kd.M (Kd.int .i64) _ _ _ 0 [.int .i64 0] from rfl) (Reps.one (show Kd.M (Kd.int .i64) _ _ _ 5 [.int .i64 5] from rfl) (Reps.one (show Kd.M (Kd.int .i64) _ _ _ 10 [.int .i64 10] from rfl) (Reps.one (show Kd.M (Kd.int .i64) _ _ _ 20 [.int .i64 20] from rfl) (Reps.one (show Kd.M (Kd.int .i64) _ _ _ 100 [.int .i64 100] from rfl) (Reps.one (show Kd.M (Kd.int .i64) _ _ _ (-1) [.int .i64 (-1)] from rfl) (Reps.one (show Kd.M (Kd.int .i64) _ _ _ 101 [.int .i64 101] from rfl) (Reps.none _ _)))))))));intro v228 w15 ho16 hb hg_ hnew_;clear hg_ hnew_;(rw [← Ny227.out] at ho16);have n0_:=Aside0.mk (Kd.R_below (by exact HO218.out) hb);have n1_:=Aside0.mk (Kd.R_elder' (by exact HO223.out) (Kd.R_base ho16) hb);have n2_:=Aside0.mk (Kd.R_lower (Kd.R_new' ho16 (Kd.R_lt (by exact HO223.out))) (below_size (by exact HB.out)));have n3_:=Aside0.mk (IsS51.below (by exact HI215.out) hb);have n4_:=Aside0.mk (below_step (by exact HB.out) hb);clear HO218;clear HO223;clear HI215;clear HB;have HO218:=n0_;have HO223:=n1_;have HO229:=n2_;have HI215:=n3_;have HB:=n4_;clear n0_ n1_ n2_ n3_ n4_;clear hb ho16) | ((with_reducible refine gate_callee (f:=28) rfl ?_);refine goesL_ (some 19) rfl rfl Tryd.func28 (by kernel_rfl) rfl #[.pointer (some ⟨gb215,0,none⟩), .int .i64 24] rfl (by (try simp only [List.map_toArray,List.map_cons,List.map_nil]);rfl) ?_;(with_reducible refine (spec_l1Cur_pick.calls gb215 l0 t225 t226 24 t230 t231 t232 w _ ?side1 ?side2 A4.out).mono ?_);(case side1 => exact HI215.out);(case side2 => exact HB.out);rintro e w17 ⟨rfl,hi,hb,hk⟩;refine ⟨_,rfl, ?_⟩;have n0_:=Aside0.mk (Kd.R_mono (Kd.R_keep (IsS51.apart (show IsS51 w _ gb215 l0 t225 t226 from by exact HI215.out) (by exact HO218.out) (by decide)) hk (fun _ h => h.2)) (fun _ h => h.1));have n1_:=Aside0.mk (Kd.R_mono (Kd.R_keep (IsS51.apart (show IsS51 w _ gb215 l0 t225 t226 from by exact HI215.out) (by exact HO223.out) (by decide)) hk (fun _ h => h.2)) (fun _ h => h.1));have n2_:=Aside0.mk (Kd.R_mono (Kd.R_keep (IsS51.apart (show IsS51 w _ gb215 l0 t225 t226 from by exact HI215.out) (by exact HO229.out) (by decide)) hk (fun _ h => h.2)) (fun _ h => h.1));have n3_:=Aside0.mk (hb);have n4_:=Aside0.mk (hi);clear HO218;clear HO223;clear HO229;clear HB;clear HI215;have HO218:=n0_;have HO223:=n1_;have HO229:=n2_;have HB:=n3_;have HI215:=n4_;clear n0_ n1_ n2_ n3_ n4_;(try clear hb);(try clear hk);(try clear hi);obtain ⟨Ao19,co19,eo19⟩ := Kd.R_slice HO229.out;subst eo19;have q18 : ((ji5) : Int) ≤ ((y227.length : Int) : Int):=of_decide_eq_true (by (with_reducible assumption));obtain ⟨i018,hi018,_,hsz18,_⟩ := info_parts info3;have hroom18 : y227.length ≤ co19:=(Kd.R_reads' HO229.out).2.1;have hC18 : Kd.C (Kd.int .i64) _ Ao19 y227.length y227:=(Kd.R_reads' HO229.out).2.2;have hcut18:=cut_to (P:=Tryd.prog) 35 3 .i64 Tryd.underlying35 hi018 Ao19 y227.length co19 (ji5) (of_decide_eq_true (by (with_reducible assumption))) q18 hroom18;have hr18:=Kd.C_take (m:=((ji5) : Int).toNat) hC18 (by omega);have hy18 : y233.length = ((ji5) : Int).toNat:=(by rw [Ny233.out,List.length_take];omega);rw [← Ny233.out] at hr18;rw [← hy18] at hcut18;have HR236:=Aside0.mk hr18;have HC236:=Aside0.mk (show y233.length ≤ co19 from by omega);clear hr18 hC18 hroom18 hi018 hsz18;have KY18:=Aside0.mk hy18;clear hy18;have KL18:=Aside0.mk (show ((ji5) : Int).toNat ≤ y227.length from by omega);replace q18:=eq_true q18) | ((with_reducible refine gate_callee (f:=23) rfl ?_);refine goesL_ (some 23) rfl rfl Tryd.func23 (by kernel_rfl) rfl #[.pointer (some ⟨gb215,0,none⟩), .slice Ao19 y233.length co19] rfl (by (try simp only [List.map_toArray,List.map_cons,List.map_nil]);rfl) ?_;(with_reducible refine (spec_l1Cur_among.calls gb215 l0 t231 t232 _ _ y233 t237 t238 t239 w _ ?side1 ?side2 ?side3 ?side4 ?side5 A8.out).mono ?_);(case side1 => exact HI215.out);(case side2 => exact HB.out);(case side3 => repeat (exact (by exact HR236.out)));(case side4 => exact HC236.out);(case side5 => intro ad_ he_ hn_;exact far_slice (IsS51.own_ne HI215.out HO229.out (by decide)) ad_ he_ (by have h1_:=KL18.out;have h2_:=KY18.out;omega));rintro e w20 ⟨rfl,hi,hb,hk⟩;refine ⟨_,rfl, ?_⟩;have n0_:=Aside0.mk (Kd.R_mono (Kd.R_keep (IsS51.apart (show IsS51 w _ gb215 l0 t231 t232 from by exact HI215.out) (by exact HO218.out) (by decide)) hk (fun _ h => h.2)) (fun _ h => h.1));have n1_:=Aside0.mk (Kd.R_mono (Kd.R_keep (IsS51.apart (show IsS51 w _ gb215 l0 t231 t232 from by exact HI215.out) (by exact HO223.out) (by decide)) hk (fun _ h => h.2)) (fun _ h => h.1));have n2_:=Aside0.mk (Kd.R_mono (Kd.R_keep (IsS51.apart (show IsS51 w _ gb215 l0 t231 t232 from by exact HI215.out) (by exact HO229.out) (by decide)) hk (fun _ h => h.2)) (fun _ h => h.1));have n3_:=Aside0.mk (hb);have n4_:=Aside0.mk (hi);clear HO218;clear HO223;clear HO229;clear HB;clear HI215;have HO218:=n0_;have HO223:=n1_;have HO229:=n2_;have HB:=n3_;have HI215:=n4_;clear n0_ n1_ n2_ n3_ n4_;(try clear hb);(try clear hk);(try clear hi)))
   go_ret3
   exact ⟨_,by rfl,by exact HO218.out,by exact HB.out⟩
  ·rw [if_neg c7] at H
   exact absurd H (by simp)
 ·rw [if_neg c6] at H
  exact absurd H (by simp)

/-! ### spec_DrawLongestAlarm: function 11 -/
def spec_DrawLongestAlarm.f (k : Nat) (l0 : List Int) : Option ((List (S41)) × Int × Int):=(spec_DrawBadReadings.f k l0).bind fun bt240 => (some (bt240.1,bt240.2.1,bt240.2.2))
theorem spec_DrawLongestAlarm.mono : ∀ a0 k,LeO (spec_DrawLongestAlarm.f k a0) (spec_DrawLongestAlarm.f (k + 1) a0):=by
 intro a0 k
 unfold spec_DrawLongestAlarm.f
 repeat' first
   | (with_reducible exact spec_DrawBadReadings.mono _ _)
   | (with_reducible exact LeO.refl _)
   | (with_reducible exact LeO.none _)
   | (with_reducible refine LeO.ite ?_ ?_)
   | (with_reducible refine LeO.bind ?_ (fun _ => ?_))
   | exact spec_DrawBadReadings.mono _ _
   | exact LeO.none _
   | refine LeO.ite ?_ ?_
   | refine LeO.bind ?_ (fun _ => ?_)
set_option maxHeartbeats 8000000 in
set_option maxRecDepth 100000 in
theorem spec_DrawLongestAlarm.calls (k : Nat) (A0 : Option Addr) (c0 : Nat) (l0 : List Int) (r1 : List (S41)) (r2 : Int) (r3 : Int) (w : World) (hr0 : Kd.C (Kd.int .u8) w A0 l0.length l0) (hc0 : l0.length ≤ c0) (h : spec_DrawLongestAlarm.f k l0 = some (r1,r2,r3)) :
  Calls Tryd.prog 11 #[.slice A0 l0.length c0] w fun e w' => ∃ v0_ : Value,e = .returned (.tuple #[v0_, .int .i64 r2, .int .i64 r3]) ∧ Kd.R k41 41 w' w.heap.size (fun _ => True) v0_ r1 ∧ Below w.heap.size w w':=by
 have HR0:=Aside0.mk hr0
 have HC0:=Aside0.mk hc0
 clear hr0 hc0
 have HB:=Aside0.mk (Below.refl w.heap.size w)
 have H : ((spec_DrawBadReadings.f k l0).bind fun bt240 => (some (bt240.1,bt240.2.1,bt240.2.2))) = some (r1,r2,r3):=h
 clear h
 replace H:=Option.bind_eq_some_iff.mp H
 obtain ⟨⟨t240,t241,t242⟩,A20,H⟩ := H
 replace H : (some (t240,t241,t242)) = some (r1,r2,r3):=H
 have A2:=Aside0.mk A20
 clear A20
 simp only [Option.some.injEq,Prod.mk.injEq] at H
 obtain ⟨rfl,rfl,rfl⟩ := H
 go_enter Tryd.func11,Tryd.ntmps11
 go_wp2_with (((with_reducible refine gate_callee (f:=31) rfl ?_);refine goesL_ (some 6) rfl rfl Tryd.func31 (by kernel_rfl) rfl #[.slice A0 l0.length c0] rfl (by (try simp only [List.map_toArray,List.map_cons,List.map_nil]);rfl) ?_;(with_reducible refine (spec_DrawBadReadings.calls k _ _ l0 t240 t241 t242 _ ?side1 ?side2 A2.out).mono ?_);(case side1 => repeat (exact HR0.out));(case side2 => exact HC0.out);rintro e w3 ⟨v243,rfl,ho0,hb⟩;refine ⟨_,rfl, ?_⟩;have n0_:=Aside0.mk (Kd.R_lower ho0 (below_size (by exact HB.out)));have n1_:=Aside0.mk (below_step (by exact HB.out) hb);clear HB;have HO244:=n0_;have HB:=n1_;clear n0_ n1_;(try clear hb);(try clear ho0)))
 go_ret3
 exact ⟨_,by rfl,by exact HO244.out,by exact HB.out⟩

/-! ### impl_IsValidReadings: function 22 -/
def impl_IsValidReadings.l0 : Nat → List (S41) → List (S41) → Int → Int → Option (Bool)
 | 0,_,_,_,_ => none
 | k + 1,x0,x5,x6,x7 => if x7 < x6 then (if 0 ≤ x7 then (if x7 < (x5.length : Int) then ((impl_within.f ((rd_T41 x5 x7).f0) 0 240).bind fun t247 => (if t247 = true then ((impl_within.f ((rd_T41 x5 x7).f1) (-400) 400).bind fun t248 => (if t248 = true then (if x7 > 0 then (if 0 ≤ (wrap64 (x7 - 1)) then (if (wrap64 (x7 - 1)) < (x0.length : Int) then (if ((rd_T41 x5 x7).f0) ≤ ((rd_T41 x0 (wrap64 (x7 - 1))).f0) then (some false) else (impl_IsValidReadings.l0 k x0 x5 x6 (wrap64 (x7 + 1)))) else (none)) else (none)) else (impl_IsValidReadings.l0 k x0 x5 x6 (wrap64 (x7 + 1)))) else (some false))) else (some false))) else (none)) else (none)) else (some (decide ((x0.length : Int) ≤ 20)))
def impl_IsValidReadings.f (k : Nat) (l0 : List (S41)) : Option (Bool):=impl_IsValidReadings.l0 k l0 l0 (l0.length : Int) 0
theorem impl_IsValidReadings.mono_l : ∀ k,(∀ y0 y1 y2 y3,LeO (impl_IsValidReadings.l0 k y0 y1 y2 y3) (impl_IsValidReadings.l0 (k + 1) y0 y1 y2 y3))
 | 0 => fun _ _ _ _ r h => by simp [impl_IsValidReadings.l0] at h
 | k + 1 => by
  have ih0:=impl_IsValidReadings.mono_l k
  ·intro y0 y1 y2 y3
   unfold impl_IsValidReadings.l0
   repeat' first
   | (with_reducible exact ih0 _ _ _ _)
   | (with_reducible exact LeO.refl _)
   | (with_reducible exact LeO.none _)
   | (with_reducible refine LeO.ite ?_ ?_)
   | (with_reducible refine LeO.bind ?_ (fun _ => ?_))
   | exact ih0 _ _ _ _
   | exact LeO.none _
   | refine LeO.ite ?_ ?_
   | refine LeO.bind ?_ (fun _ => ?_)
theorem impl_IsValidReadings.mono : ∀ a0 k,LeO (impl_IsValidReadings.f k a0) (impl_IsValidReadings.f (k + 1) a0):=by
 intro a0 k
 have ih0:=impl_IsValidReadings.mono_l k
 unfold impl_IsValidReadings.f
 repeat' first
   | (with_reducible exact ih0 _ _ _ _)
   | (with_reducible exact LeO.refl _)
   | (with_reducible exact LeO.none _)
   | (with_reducible refine LeO.ite ?_ ?_)
   | (with_reducible refine LeO.bind ?_ (fun _ => ?_))
   | exact ih0 _ _ _ _
   | exact LeO.none _
   | refine LeO.ite ?_ ?_
   | refine LeO.bind ?_ (fun _ => ?_)
set_option maxHeartbeats 8000000 in
set_option maxRecDepth 100000 in
theorem impl_IsValidReadings.calls (k : Nat) (A0 : Option Addr) (c0 : Nat) (l0 : List (S41)) (r : Bool) (w : World) (hr0 : Kd.C k41 w A0 l0.length l0) (hc0 : l0.length ≤ c0) (h : impl_IsValidReadings.f k l0 = some r) :
  Calls Tryd.prog 22 #[.slice A0 l0.length c0] w fun e w' => e = .returned (.bool r) ∧ Below w.heap.size w w':=by
 have hu41:=Tryd.underlying41
 have HR0:=Aside0.mk hr0
 have HC0:=Aside0.mk hc0
 clear hr0 hc0
 have HB:=Aside0.mk (Below.refl w.heap.size w)
 have H : (impl_IsValidReadings.l0 k l0 l0 (l0.length : Int) 0) = some r:=h
 clear h
 have H':=Aside0.mk H
 clear H
 go_enter Tryd.func22,Tryd.ntmps22
 go_wp2
 repeat (go_quiet (fail);try go_wp2)
 go_loopg [7] k (fun kq v7 w' => ∃ (x7_1 : Int),v7 = .int .i64 x7_1 ∧ Aside0 (impl_IsValidReadings.l0 kq l0 l0 (l0.length : Int) x7_1 = some r) ∧ Aside0 (kq ≤ k) ∧ Aside0 (Below w.heap.size w w'))
 case atStart => exact ⟨(0),(by rfl),H',⟨Nat.le_refl _⟩,⟨by exact HB.out⟩⟩
 case round =>
  clear H'
  obtain ⟨x7_1,rfl,HA,HK1,HB⟩ := hrel
  cases gk with
  | zero => exact absurd HA.out (by simp [impl_IsValidReadings.l0])
  | succ k1 =>
   have H:=HA.out
   clear HA
   simp only [impl_IsValidReadings.l0] at H
   by_cases c2 : x7_1 < (l0.length : Int)
   ·rw [if_pos c2] at H
    have c2b0 : decide (x7_1 < (l0.length : Int)) = true:=decide_eq_true c2
    clear c2
    by_cases c3 : 0 ≤ x7_1
    ·rw [if_pos c3] at H
     have c3b0 : decide (0 ≤ x7_1) = true:=decide_eq_true c3
     clear c3
     by_cases c4 : x7_1 < (l0.length : Int)
     ·rw [if_pos c4] at H
      have c4b0 : decide (x7_1 < (l0.length : Int)) = true:=decide_eq_true c4
      clear c4
      replace H:=Option.bind_eq_some_iff.mp H
      obtain ⟨t247,A50,H⟩ := H
      replace H : (if t247 = true then ((impl_within.f ((rd_T41 l0 x7_1).f1) (-400) 400).bind fun t248 => (if t248 = true then (if x7_1 > 0 then (if 0 ≤ (wrap64 (x7_1 - 1)) then (if (wrap64 (x7_1 - 1)) < (l0.length : Int) then (if ((rd_T41 l0 x7_1).f0) ≤ ((rd_T41 l0 (wrap64 (x7_1 - 1))).f0) then (some false) else (impl_IsValidReadings.l0 k1 l0 l0 (l0.length : Int) (wrap64 (x7_1 + 1)))) else (none)) else (none)) else (impl_IsValidReadings.l0 k1 l0 l0 (l0.length : Int) (wrap64 (x7_1 + 1)))) else (some false))) else (some false)) = some r:=H
      have A5:=Aside0.mk A50
      clear A50
      by_cases c6 : t247 = true
      ·subst c6
       have H1 : ((impl_within.f ((rd_T41 l0 x7_1).f1) (-400) 400).bind fun t248 => (if t248 = true then (if x7_1 > 0 then (if 0 ≤ (wrap64 (x7_1 - 1)) then (if (wrap64 (x7_1 - 1)) < (l0.length : Int) then (if ((rd_T41 l0 x7_1).f0) ≤ ((rd_T41 l0 (wrap64 (x7_1 - 1))).f0) then (some false) else (impl_IsValidReadings.l0 k1 l0 l0 (l0.length : Int) (wrap64 (x7_1 + 1)))) else (none)) else (none)) else (impl_IsValidReadings.l0 k1 l0 l0 (l0.length : Int) (wrap64 (x7_1 + 1)))) else (some false))) = some r:=by rw [if_pos rfl] at H;exact H
       clear H
       have H:=H1
       clear H1
       replace H:=Option.bind_eq_some_iff.mp H
       obtain ⟨t248,A70,H⟩ := H
       replace H : (if t248 = true then (if x7_1 > 0 then (if 0 ≤ (wrap64 (x7_1 - 1)) then (if (wrap64 (x7_1 - 1)) < (l0.length : Int) then (if ((rd_T41 l0 x7_1).f0) ≤ ((rd_T41 l0 (wrap64 (x7_1 - 1))).f0) then (some false) else (impl_IsValidReadings.l0 k1 l0 l0 (l0.length : Int) (wrap64 (x7_1 + 1)))) else (none)) else (none)) else (impl_IsValidReadings.l0 k1 l0 l0 (l0.length : Int) (wrap64 (x7_1 + 1)))) else (some false)) = some r:=H
       have A7:=Aside0.mk A70
       clear A70
       by_cases c8 : t248 = true
       ·subst c8
        have H1 : (if x7_1 > 0 then (if 0 ≤ (wrap64 (x7_1 - 1)) then (if (wrap64 (x7_1 - 1)) < (l0.length : Int) then (if ((rd_T41 l0 x7_1).f0) ≤ ((rd_T41 l0 (wrap64 (x7_1 - 1))).f0) then (some false) else (impl_IsValidReadings.l0 k1 l0 l0 (l0.length : Int) (wrap64 (x7_1 + 1)))) else (none)) else (none)) else (impl_IsValidReadings.l0 k1 l0 l0 (l0.length : Int) (wrap64 (x7_1 + 1)))) = some r:=by rw [if_pos rfl] at H;exact H
        clear H
        have H:=H1
        clear H1
        by_cases c9 : x7_1 > 0
        ·rw [if_pos c9] at H
         have c9b0 : decide (0 < x7_1) = true:=decide_eq_true c9
         clear c9
         obtain ⟨ji10,hji10⟩ : ∃ j_ : Int,(wrap64 (x7_1 - 1)) = j_:=⟨_,rfl⟩
         replace H : (if 0 ≤ (ji10) then (if (ji10) < (l0.length : Int) then (if ((rd_T41 l0 x7_1).f0) ≤ ((rd_T41 l0 (ji10)).f0) then (some false) else (impl_IsValidReadings.l0 k1 l0 l0 (l0.length : Int) (wrap64 (x7_1 + 1)))) else (none)) else (none)) = some r:=by (rw [hji10] at H;exact H)
         (skip)
         (skip)
         have hji10w : (IntKind.i64.wrap (x7_1 - 1)) = ji10:=(i64_w _).trans hji10
         by_cases c11 : 0 ≤ (ji10)
         ·rw [if_pos c11] at H
          have c11b0 : decide (0 ≤ (ji10)) = true:=decide_eq_true c11
          clear c11
          by_cases c12 : (ji10) < (l0.length : Int)
          ·rw [if_pos c12] at H
           have c12b0 : decide ((ji10) < (l0.length : Int)) = true:=decide_eq_true c12
           clear c12
           by_cases c13 : ((rd_T41 l0 x7_1).f0) ≤ ((rd_T41 l0 (ji10)).f0)
           ·rw [if_pos c13] at H
            have c13b0 : decide (((rd_T41 l0 x7_1).f0) ≤ ((rd_T41 l0 (ji10)).f0)) = true:=decide_eq_true c13
            clear c13
            obtain rfl:=Option.some.inj H
            have p245 : 0 ≤ (x7_1 : Int):=of_decide_eq_true (by (with_reducible assumption))
            have q245 : x7_1 < (l0.length : Int):=of_decide_eq_true (by (with_reducible assumption))
            obtain ⟨ad245,e245,hx245_0,hx245_1,hx245_2⟩ := at_T41 HR0.out x7_1 p245 q245
            cases e245
            replace hx245_0:=(HB.out.cell (World.block_lt_of_cell? w _ hx245_0)).trans hx245_0
            replace hx245_1:=(HB.out.cell (World.block_lt_of_cell? w _ hx245_1)).trans hx245_1
            replace hx245_2:=(HB.out.cell (World.block_lt_of_cell? w _ hx245_2)).trans hx245_2
            replace p245:=eq_true p245
            replace q245:=eq_true q245
            go_wp2_with (((with_reducible refine gate_dst (N:=4) rfl ?_);refine box_event ?hg (N:=4) ?hd (cs:=#[.int .i64 0, .int .i64 0, .bool false]) (t:=41) ?hr ?_;(case hd => rfl);(case hg => rfl);(case hr => (go_simp;done));intro gb246 hg w14 hbox hb;have n0_:=Aside0.mk (below_step (by exact HB.out) hb);have n1_:=Aside0.mk (hbox);have n2_:=Aside0.mk ((by rw [hg];exact (below_size (by exact HB.out)) : w.heap.size ≤ gb246));have n3_:=Aside0.mk ((by rw [hg];exact (below_size (by exact HB.out)) : w.heap.size ≤ gb246));clear HB;have HB:=n0_;have BK246:=n1_;have GW246:=n2_;have GE246:=n3_;clear n0_ n1_ n2_ n3_;clear hb hbox hg;have hcz15_0 : w14.cell? ⟨gb246,0,none⟩ = some (.int .i64 0):=(blk_cell BK246.out 0).trans rfl;have hcz15_1 : w14.cell? ⟨gb246,1,none⟩ = some (.int .i64 0):=(blk_cell BK246.out 1).trans rfl;have hcz15_2 : w14.cell? ⟨gb246,2,none⟩ = some (.bool false):=(blk_cell BK246.out 2).trans rfl;have hfz15_0:=blk_frozen BK246.out 0;have hfz15_1:=blk_frozen BK246.out 1;have hfz15_2:=blk_frozen BK246.out 2))
            repeat (go_quiet (first | (go_at_call 24;(with_reducible refine (impl_within.calls ((rd_T41 l0 x7_1).f0) 0 240 true _ A5.out).mono ?_);rintro e w' ⟨rfl,⟨nd,rfl⟩⟩;(try first | exact ⟨rfl,_,World.drewN_drewN _ _ _⟩ | exact ⟨rfl,_,Eq.trans (World.drewN_drewN _ _ _) (congrArg (World.drewN _) (Nat.add_assoc _ _ _))⟩)) | (go_at_call 24;(with_reducible refine (impl_within.calls ((rd_T41 l0 x7_1).f1) (-400) 400 true _ A7.out).mono ?_);rintro e w' ⟨rfl,⟨nd,rfl⟩⟩;(try first | exact ⟨rfl,_,World.drewN_drewN _ _ _⟩ | exact ⟨rfl,_,Eq.trans (World.drewN_drewN _ _ _) (congrArg (World.drewN _) (Nat.add_assoc _ _ _))⟩);have p249 : 0 ≤ ((ji10) : Int):=of_decide_eq_true (by (with_reducible assumption));have q249 : (ji10) < (l0.length : Int):=of_decide_eq_true (by (with_reducible assumption));obtain ⟨ad249,e249,hx249_0,hx249_1,hx249_2⟩ := at_T41 HR0.out (ji10) p249 q249;obtain rfl : ad245 = ad249:=(by injection e249);have hn249_0 : ad245.block ≠ gb246:=Nat.ne_of_lt (Nat.lt_of_lt_of_le (by have:=World.block_lt_of_cell? _ _ hx249_0;rwa [add_block] at this) GW246.out);have hn249_1 : ad245.block ≠ gb246:=Nat.ne_of_lt (Nat.lt_of_lt_of_le (by have:=World.block_lt_of_cell? _ _ hx249_0;rwa [add_block] at this) GW246.out);have hn249_2 : ad245.block ≠ gb246:=Nat.ne_of_lt (Nat.lt_of_lt_of_le (by have:=World.block_lt_of_cell? _ _ hx249_0;rwa [add_block] at this) GW246.out);replace hx249_0:=(HB.out.cell (World.block_lt_of_cell? w _ hx249_0)).trans hx249_0;replace hx249_1:=(HB.out.cell (World.block_lt_of_cell? w _ hx249_1)).trans hx249_1;replace hx249_2:=(HB.out.cell (World.block_lt_of_cell? w _ hx249_2)).trans hx249_2;replace hx249_0:=(cell_far (p:=⟨gb246,0,none⟩) (by (rw [add_block];exact hn249_0)) (.int .i64 ((rd_T41 l0 x7_1).f0))).trans hx249_0;replace hx249_1:=(cell_far (p:=⟨gb246,0,none⟩) (by (rw [add_block];exact hn249_0)) (.int .i64 ((rd_T41 l0 x7_1).f0))).trans hx249_1;replace hx249_2:=(cell_far (p:=⟨gb246,0,none⟩) (by (rw [add_block];exact hn249_0)) (.int .i64 ((rd_T41 l0 x7_1).f0))).trans hx249_2;replace hx249_0:=(cell_far (p:=⟨gb246,1,none⟩) (by (rw [add_block];exact hn249_1)) (.int .i64 ((rd_T41 l0 x7_1).f1))).trans hx249_0;replace hx249_1:=(cell_far (p:=⟨gb246,1,none⟩) (by (rw [add_block];exact hn249_1)) (.int .i64 ((rd_T41 l0 x7_1).f1))).trans hx249_1;replace hx249_2:=(cell_far (p:=⟨gb246,1,none⟩) (by (rw [add_block];exact hn249_1)) (.int .i64 ((rd_T41 l0 x7_1).f1))).trans hx249_2;replace hx249_0:=(cell_far (p:=⟨gb246,2,none⟩) (by (rw [add_block];exact hn249_2)) (.bool ((rd_T41 l0 x7_1).f2))).trans hx249_0;replace hx249_1:=(cell_far (p:=⟨gb246,2,none⟩) (by (rw [add_block];exact hn249_2)) (.bool ((rd_T41 l0 x7_1).f2))).trans hx249_1;replace hx249_2:=(cell_far (p:=⟨gb246,2,none⟩) (by (rw [add_block];exact hn249_2)) (.bool ((rd_T41 l0 x7_1).f2))).trans hx249_2;(try have hy249_0:=fun (n_ : Nat) => (show (((((w14.drewN n_).setCell ⟨gb246,0,none⟩ (.int .i64 ((rd_T41 l0 x7_1).f0))).setCell ⟨gb246,1,none⟩ (.int .i64 ((rd_T41 l0 x7_1).f1))).setCell ⟨gb246,2,none⟩ (.bool ((rd_T41 l0 x7_1).f2)))).cell? _ = some _ from hx249_0));(try have hy249_1:=fun (n_ : Nat) => (show (((((w14.drewN n_).setCell ⟨gb246,0,none⟩ (.int .i64 ((rd_T41 l0 x7_1).f0))).setCell ⟨gb246,1,none⟩ (.int .i64 ((rd_T41 l0 x7_1).f1))).setCell ⟨gb246,2,none⟩ (.bool ((rd_T41 l0 x7_1).f2)))).cell? _ = some _ from hx249_1));(try have hy249_2:=fun (n_ : Nat) => (show (((((w14.drewN n_).setCell ⟨gb246,0,none⟩ (.int .i64 ((rd_T41 l0 x7_1).f0))).setCell ⟨gb246,1,none⟩ (.int .i64 ((rd_T41 l0 x7_1).f1))).setCell ⟨gb246,2,none⟩ (.bool ((rd_T41 l0 x7_1).f2)))).cell? _ = some _ from hx249_2));clear hn249_0;clear hn249_1;clear hn249_2;replace p249:=eq_true p249;replace q249:=eq_true q249));try go_wp2_with (fail))
            go_ret
            exact ⟨by rfl,by repeat ((with_reducible first | exact HB.out | apply pw_below_drewN | refine below_set ?_ GE246.out))⟩
           ·rw [if_neg c13] at H
            have c13b0 : decide (((rd_T41 l0 x7_1).f0) ≤ ((rd_T41 l0 (ji10)).f0)) = false:=decide_eq_false c13
            clear c13
            have H':=Aside0.mk H
            clear H
            have p245 : 0 ≤ (x7_1 : Int):=of_decide_eq_true (by (with_reducible assumption))
            have q245 : x7_1 < (l0.length : Int):=of_decide_eq_true (by (with_reducible assumption))
            obtain ⟨ad245,e245,hx245_0,hx245_1,hx245_2⟩ := at_T41 HR0.out x7_1 p245 q245
            cases e245
            replace hx245_0:=(HB.out.cell (World.block_lt_of_cell? w _ hx245_0)).trans hx245_0
            replace hx245_1:=(HB.out.cell (World.block_lt_of_cell? w _ hx245_1)).trans hx245_1
            replace hx245_2:=(HB.out.cell (World.block_lt_of_cell? w _ hx245_2)).trans hx245_2
            replace p245:=eq_true p245
            replace q245:=eq_true q245
            go_wp2_with (((with_reducible refine gate_dst (N:=4) rfl ?_);refine box_event ?hg (N:=4) ?hd (cs:=#[.int .i64 0, .int .i64 0, .bool false]) (t:=41) ?hr ?_;(case hd => rfl);(case hg => rfl);(case hr => (go_simp;done));intro gb246 hg w16 hbox hb;have n0_:=Aside0.mk (below_step (by exact HB.out) hb);have n1_:=Aside0.mk (hbox);have n2_:=Aside0.mk ((by rw [hg];exact (below_size (by exact HB.out)) : w.heap.size ≤ gb246));have n3_:=Aside0.mk ((by rw [hg];exact (below_size (by exact HB.out)) : w.heap.size ≤ gb246));clear HB;have HB:=n0_;have BK246:=n1_;have GW246:=n2_;have GE246:=n3_;clear n0_ n1_ n2_ n3_;clear hb hbox hg;have hcz17_0 : w16.cell? ⟨gb246,0,none⟩ = some (.int .i64 0):=(blk_cell BK246.out 0).trans rfl;have hcz17_1 : w16.cell? ⟨gb246,1,none⟩ = some (.int .i64 0):=(blk_cell BK246.out 1).trans rfl;have hcz17_2 : w16.cell? ⟨gb246,2,none⟩ = some (.bool false):=(blk_cell BK246.out 2).trans rfl;have hfz17_0:=blk_frozen BK246.out 0;have hfz17_1:=blk_frozen BK246.out 1;have hfz17_2:=blk_frozen BK246.out 2))
            repeat (go_quiet (first | (go_at_call 24;(with_reducible refine (impl_within.calls ((rd_T41 l0 x7_1).f0) 0 240 true _ A5.out).mono ?_);rintro e w' ⟨rfl,⟨nd,rfl⟩⟩;(try first | exact ⟨rfl,_,World.drewN_drewN _ _ _⟩ | exact ⟨rfl,_,Eq.trans (World.drewN_drewN _ _ _) (congrArg (World.drewN _) (Nat.add_assoc _ _ _))⟩)) | (go_at_call 24;(with_reducible refine (impl_within.calls ((rd_T41 l0 x7_1).f1) (-400) 400 true _ A7.out).mono ?_);rintro e w' ⟨rfl,⟨nd,rfl⟩⟩;(try first | exact ⟨rfl,_,World.drewN_drewN _ _ _⟩ | exact ⟨rfl,_,Eq.trans (World.drewN_drewN _ _ _) (congrArg (World.drewN _) (Nat.add_assoc _ _ _))⟩);have p249 : 0 ≤ ((ji10) : Int):=of_decide_eq_true (by (with_reducible assumption));have q249 : (ji10) < (l0.length : Int):=of_decide_eq_true (by (with_reducible assumption));obtain ⟨ad249,e249,hx249_0,hx249_1,hx249_2⟩ := at_T41 HR0.out (ji10) p249 q249;obtain rfl : ad245 = ad249:=(by injection e249);have hn249_0 : ad245.block ≠ gb246:=Nat.ne_of_lt (Nat.lt_of_lt_of_le (by have:=World.block_lt_of_cell? _ _ hx249_0;rwa [add_block] at this) GW246.out);have hn249_1 : ad245.block ≠ gb246:=Nat.ne_of_lt (Nat.lt_of_lt_of_le (by have:=World.block_lt_of_cell? _ _ hx249_0;rwa [add_block] at this) GW246.out);have hn249_2 : ad245.block ≠ gb246:=Nat.ne_of_lt (Nat.lt_of_lt_of_le (by have:=World.block_lt_of_cell? _ _ hx249_0;rwa [add_block] at this) GW246.out);replace hx249_0:=(HB.out.cell (World.block_lt_of_cell? w _ hx249_0)).trans hx249_0;replace hx249_1:=(HB.out.cell (World.block_lt_of_cell? w _ hx249_1)).trans hx249_1;replace hx249_2:=(HB.out.cell (World.block_lt_of_cell? w _ hx249_2)).trans hx249_2;replace hx249_0:=(cell_far (p:=⟨gb246,0,none⟩) (by (rw [add_block];exact hn249_0)) (.int .i64 ((rd_T41 l0 x7_1).f0))).trans hx249_0;replace hx249_1:=(cell_far (p:=⟨gb246,0,none⟩) (by (rw [add_block];exact hn249_0)) (.int .i64 ((rd_T41 l0 x7_1).f0))).trans hx249_1;replace hx249_2:=(cell_far (p:=⟨gb246,0,none⟩) (by (rw [add_block];exact hn249_0)) (.int .i64 ((rd_T41 l0 x7_1).f0))).trans hx249_2;replace hx249_0:=(cell_far (p:=⟨gb246,1,none⟩) (by (rw [add_block];exact hn249_1)) (.int .i64 ((rd_T41 l0 x7_1).f1))).trans hx249_0;replace hx249_1:=(cell_far (p:=⟨gb246,1,none⟩) (by (rw [add_block];exact hn249_1)) (.int .i64 ((rd_T41 l0 x7_1).f1))).trans hx249_1;replace hx249_2:=(cell_far (p:=⟨gb246,1,none⟩) (by (rw [add_block];exact hn249_1)) (.int .i64 ((rd_T41 l0 x7_1).f1))).trans hx249_2;replace hx249_0:=(cell_far (p:=⟨gb246,2,none⟩) (by (rw [add_block];exact hn249_2)) (.bool ((rd_T41 l0 x7_1).f2))).trans hx249_0;replace hx249_1:=(cell_far (p:=⟨gb246,2,none⟩) (by (rw [add_block];exact hn249_2)) (.bool ((rd_T41 l0 x7_1).f2))).trans hx249_1;replace hx249_2:=(cell_far (p:=⟨gb246,2,none⟩) (by (rw [add_block];exact hn249_2)) (.bool ((rd_T41 l0 x7_1).f2))).trans hx249_2;(try have hy249_0:=fun (n_ : Nat) => (show (((((w16.drewN n_).setCell ⟨gb246,0,none⟩ (.int .i64 ((rd_T41 l0 x7_1).f0))).setCell ⟨gb246,1,none⟩ (.int .i64 ((rd_T41 l0 x7_1).f1))).setCell ⟨gb246,2,none⟩ (.bool ((rd_T41 l0 x7_1).f2)))).cell? _ = some _ from hx249_0));(try have hy249_1:=fun (n_ : Nat) => (show (((((w16.drewN n_).setCell ⟨gb246,0,none⟩ (.int .i64 ((rd_T41 l0 x7_1).f0))).setCell ⟨gb246,1,none⟩ (.int .i64 ((rd_T41 l0 x7_1).f1))).setCell ⟨gb246,2,none⟩ (.bool ((rd_T41 l0 x7_1).f2)))).cell? _ = some _ from hx249_1));(try have hy249_2:=fun (n_ : Nat) => (show (((((w16.drewN n_).setCell ⟨gb246,0,none⟩ (.int .i64 ((rd_T41 l0 x7_1).f0))).setCell ⟨gb246,1,none⟩ (.int .i64 ((rd_T41 l0 x7_1).f1))).setCell ⟨gb246,2,none⟩ (.bool ((rd_T41 l0 x7_1).f2)))).cell? _ = some _ from hx249_2));clear hn249_0;clear hn249_1;clear hn249_2;replace p249:=eq_true p249;replace q249:=eq_true q249));try go_wp2_with (fail))
            go_roundg k1
            case measure => have:=HK1.out;omega
            case rel => exact ⟨(wrap64 (x7_1 + 1)),(by rfl),H',⟨by have:=HK1.out;omega⟩,⟨by repeat ((with_reducible first | exact HB.out | apply pw_below_drewN | refine below_set ?_ GE246.out))⟩⟩
          ·rw [if_neg c12] at H
           exact absurd H (by simp)
         ·rw [if_neg c11] at H
          exact absurd H (by simp)
        ·rw [if_neg c9] at H
         have c9b0 : decide (0 < x7_1) = false:=decide_eq_false c9
         clear c9
         have H':=Aside0.mk H
         clear H
         have p245 : 0 ≤ (x7_1 : Int):=of_decide_eq_true (by (with_reducible assumption))
         have q245 : x7_1 < (l0.length : Int):=of_decide_eq_true (by (with_reducible assumption))
         obtain ⟨ad245,e245,hx245_0,hx245_1,hx245_2⟩ := at_T41 HR0.out x7_1 p245 q245
         cases e245
         replace hx245_0:=(HB.out.cell (World.block_lt_of_cell? w _ hx245_0)).trans hx245_0
         replace hx245_1:=(HB.out.cell (World.block_lt_of_cell? w _ hx245_1)).trans hx245_1
         replace hx245_2:=(HB.out.cell (World.block_lt_of_cell? w _ hx245_2)).trans hx245_2
         replace p245:=eq_true p245
         replace q245:=eq_true q245
         go_wp2_with (((with_reducible refine gate_dst (N:=4) rfl ?_);refine box_event ?hg (N:=4) ?hd (cs:=#[.int .i64 0, .int .i64 0, .bool false]) (t:=41) ?hr ?_;(case hd => rfl);(case hg => rfl);(case hr => (go_simp;done));intro gb246 hg w18 hbox hb;have n0_:=Aside0.mk (below_step (by exact HB.out) hb);have n1_:=Aside0.mk (hbox);have n2_:=Aside0.mk ((by rw [hg];exact (below_size (by exact HB.out)) : w.heap.size ≤ gb246));have n3_:=Aside0.mk ((by rw [hg];exact (below_size (by exact HB.out)) : w.heap.size ≤ gb246));clear HB;have HB:=n0_;have BK246:=n1_;have GW246:=n2_;have GE246:=n3_;clear n0_ n1_ n2_ n3_;clear hb hbox hg;have hcz19_0 : w18.cell? ⟨gb246,0,none⟩ = some (.int .i64 0):=(blk_cell BK246.out 0).trans rfl;have hcz19_1 : w18.cell? ⟨gb246,1,none⟩ = some (.int .i64 0):=(blk_cell BK246.out 1).trans rfl;have hcz19_2 : w18.cell? ⟨gb246,2,none⟩ = some (.bool false):=(blk_cell BK246.out 2).trans rfl;have hfz19_0:=blk_frozen BK246.out 0;have hfz19_1:=blk_frozen BK246.out 1;have hfz19_2:=blk_frozen BK246.out 2))
         repeat (go_quiet (first | (go_at_call 24;(with_reducible refine (impl_within.calls ((rd_T41 l0 x7_1).f0) 0 240 true _ A5.out).mono ?_);rintro e w' ⟨rfl,⟨nd,rfl⟩⟩;(try first | exact ⟨rfl,_,World.drewN_drewN _ _ _⟩ | exact ⟨rfl,_,Eq.trans (World.drewN_drewN _ _ _) (congrArg (World.drewN _) (Nat.add_assoc _ _ _))⟩)) | (go_at_call 24;(with_reducible refine (impl_within.calls ((rd_T41 l0 x7_1).f1) (-400) 400 true _ A7.out).mono ?_);rintro e w' ⟨rfl,⟨nd,rfl⟩⟩;(try first | exact ⟨rfl,_,World.drewN_drewN _ _ _⟩ | exact ⟨rfl,_,Eq.trans (World.drewN_drewN _ _ _) (congrArg (World.drewN _) (Nat.add_assoc _ _ _))⟩)));try go_wp2_with (fail))
         go_roundg k1
         case measure => have:=HK1.out;omega
         case rel => exact ⟨(wrap64 (x7_1 + 1)),(by rfl),H',⟨by have:=HK1.out;omega⟩,⟨by repeat ((with_reducible first | exact HB.out | apply pw_below_drewN | refine below_set ?_ GE246.out))⟩⟩
       ·replace c8:=Bool.eq_false_iff.mpr c8
        subst c8
        have H1 : (some false) = some r:=by rw [if_neg (show ¬ (false = true) by decide)] at H;exact H
        clear H
        have H:=H1
        clear H1
        obtain rfl:=Option.some.inj H
        have p245 : 0 ≤ (x7_1 : Int):=of_decide_eq_true (by (with_reducible assumption))
        have q245 : x7_1 < (l0.length : Int):=of_decide_eq_true (by (with_reducible assumption))
        obtain ⟨ad245,e245,hx245_0,hx245_1,hx245_2⟩ := at_T41 HR0.out x7_1 p245 q245
        cases e245
        replace hx245_0:=(HB.out.cell (World.block_lt_of_cell? w _ hx245_0)).trans hx245_0
        replace hx245_1:=(HB.out.cell (World.block_lt_of_cell? w _ hx245_1)).trans hx245_1
        replace hx245_2:=(HB.out.cell (World.block_lt_of_cell? w _ hx245_2)).trans hx245_2
        replace p245:=eq_true p245
        replace q245:=eq_true q245
        go_wp2_with (((with_reducible refine gate_dst (N:=4) rfl ?_);refine box_event ?hg (N:=4) ?hd (cs:=#[.int .i64 0, .int .i64 0, .bool false]) (t:=41) ?hr ?_;(case hd => rfl);(case hg => rfl);(case hr => (go_simp;done));intro gb246 hg w20 hbox hb;have n0_:=Aside0.mk (below_step (by exact HB.out) hb);have n1_:=Aside0.mk (hbox);have n2_:=Aside0.mk ((by rw [hg];exact (below_size (by exact HB.out)) : w.heap.size ≤ gb246));have n3_:=Aside0.mk ((by rw [hg];exact (below_size (by exact HB.out)) : w.heap.size ≤ gb246));clear HB;have HB:=n0_;have BK246:=n1_;have GW246:=n2_;have GE246:=n3_;clear n0_ n1_ n2_ n3_;clear hb hbox hg;have hcz21_0 : w20.cell? ⟨gb246,0,none⟩ = some (.int .i64 0):=(blk_cell BK246.out 0).trans rfl;have hcz21_1 : w20.cell? ⟨gb246,1,none⟩ = some (.int .i64 0):=(blk_cell BK246.out 1).trans rfl;have hcz21_2 : w20.cell? ⟨gb246,2,none⟩ = some (.bool false):=(blk_cell BK246.out 2).trans rfl;have hfz21_0:=blk_frozen BK246.out 0;have hfz21_1:=blk_frozen BK246.out 1;have hfz21_2:=blk_frozen BK246.out 2))
        repeat (go_quiet (first | (go_at_call 24;(with_reducible refine (impl_within.calls ((rd_T41 l0 x7_1).f0) 0 240 true _ A5.out).mono ?_);rintro e w' ⟨rfl,⟨nd,rfl⟩⟩;(try first | exact ⟨rfl,_,World.drewN_drewN _ _ _⟩ | exact ⟨rfl,_,Eq.trans (World.drewN_drewN _ _ _) (congrArg (World.drewN _) (Nat.add_assoc _ _ _))⟩)) | (go_at_call 24;(with_reducible refine (impl_within.calls ((rd_T41 l0 x7_1).f1) (-400) 400 false _ A7.out).mono ?_);rintro e w' ⟨rfl,⟨nd,rfl⟩⟩;(try first | exact ⟨rfl,_,World.drewN_drewN _ _ _⟩ | exact ⟨rfl,_,Eq.trans (World.drewN_drewN _ _ _) (congrArg (World.drewN _) (Nat.add_assoc _ _ _))⟩)));try go_wp2_with (fail))
        go_ret
        exact ⟨by rfl,by repeat ((with_reducible first | exact HB.out | apply pw_below_drewN | refine below_set ?_ GE246.out))⟩
      ·replace c6:=Bool.eq_false_iff.mpr c6
       subst c6
       have H1 : (some false) = some r:=by rw [if_neg (show ¬ (false = true) by decide)] at H;exact H
       clear H
       have H:=H1
       clear H1
       obtain rfl:=Option.some.inj H
       have p245 : 0 ≤ (x7_1 : Int):=of_decide_eq_true (by (with_reducible assumption))
       have q245 : x7_1 < (l0.length : Int):=of_decide_eq_true (by (with_reducible assumption))
       obtain ⟨ad245,e245,hx245_0,hx245_1,hx245_2⟩ := at_T41 HR0.out x7_1 p245 q245
       cases e245
       replace hx245_0:=(HB.out.cell (World.block_lt_of_cell? w _ hx245_0)).trans hx245_0
       replace hx245_1:=(HB.out.cell (World.block_lt_of_cell? w _ hx245_1)).trans hx245_1
       replace hx245_2:=(HB.out.cell (World.block_lt_of_cell? w _ hx245_2)).trans hx245_2
       replace p245:=eq_true p245
       replace q245:=eq_true q245
       go_wp2_with (((with_reducible refine gate_dst (N:=4) rfl ?_);refine box_event ?hg (N:=4) ?hd (cs:=#[.int .i64 0, .int .i64 0, .bool false]) (t:=41) ?hr ?_;(case hd => rfl);(case hg => rfl);(case hr => (go_simp;done));intro gb246 hg w22 hbox hb;have n0_:=Aside0.mk (below_step (by exact HB.out) hb);have n1_:=Aside0.mk (hbox);have n2_:=Aside0.mk ((by rw [hg];exact (below_size (by exact HB.out)) : w.heap.size ≤ gb246));have n3_:=Aside0.mk ((by rw [hg];exact (below_size (by exact HB.out)) : w.heap.size ≤ gb246));clear HB;have HB:=n0_;have BK246:=n1_;have GW246:=n2_;have GE246:=n3_;clear n0_ n1_ n2_ n3_;clear hb hbox hg;have hcz23_0 : w22.cell? ⟨gb246,0,none⟩ = some (.int .i64 0):=(blk_cell BK246.out 0).trans rfl;have hcz23_1 : w22.cell? ⟨gb246,1,none⟩ = some (.int .i64 0):=(blk_cell BK246.out 1).trans rfl;have hcz23_2 : w22.cell? ⟨gb246,2,none⟩ = some (.bool false):=(blk_cell BK246.out 2).trans rfl;have hfz23_0:=blk_frozen BK246.out 0;have hfz23_1:=blk_frozen BK246.out 1;have hfz23_2:=blk_frozen BK246.out 2))
       repeat (go_quiet ((go_at_call 24;(with_reducible refine (impl_within.calls ((rd_T41 l0 x7_1).f0) 0 240 false _ A5.out).mono ?_);rintro e w' ⟨rfl,⟨nd,rfl⟩⟩;(try first | exact ⟨rfl,_,World.drewN_drewN _ _ _⟩ | exact ⟨rfl,_,Eq.trans (World.drewN_drewN _ _ _) (congrArg (World.drewN _) (Nat.add_assoc _ _ _))⟩)));try go_wp2_with (fail))
       go_ret
       exact ⟨by rfl,by repeat ((with_reducible first | exact HB.out | apply pw_below_drewN | refine below_set ?_ GE246.out))⟩
     ·rw [if_neg c4] at H
      exact absurd H (by simp)
    ·rw [if_neg c3] at H
     exact absurd H (by simp)
   ·rw [if_neg c2] at H
    have c2b0 : decide (x7_1 < (l0.length : Int)) = false:=decide_eq_false c2
    clear c2
    obtain rfl:=Option.some.inj H
    go_wp2
    repeat (go_quiet (fail);try go_wp2)
    go_ret
    exact ⟨by rfl,by exact HB.out⟩

/-! ### impl_isSetting: function 32 -/
def impl_isSetting.f (k : Nat) (l0 : List (S41)) (a1 : Int) (a2 : Int) : Option (Bool):=(impl_IsValidReadings.f k l0).bind fun t250 => (if t250 = true then ((impl_within.f a1 (-300) 300).bind fun t251 => (if t251 = true then ((impl_within.f a2 0 100).bind fun t252 => (some t252)) else (some false))) else (some false))
theorem impl_isSetting.mono : ∀ a0 a1 a2 k,LeO (impl_isSetting.f k a0 a1 a2) (impl_isSetting.f (k + 1) a0 a1 a2):=by
 intro a0 a1 a2 k
 unfold impl_isSetting.f
 repeat' first
   | (with_reducible exact impl_IsValidReadings.mono _ _)
   | (with_reducible exact LeO.refl _)
   | (with_reducible exact LeO.none _)
   | (with_reducible refine LeO.ite ?_ ?_)
   | (with_reducible refine LeO.bind ?_ (fun _ => ?_))
   | exact impl_IsValidReadings.mono _ _
   | exact LeO.none _
   | refine LeO.ite ?_ ?_
   | refine LeO.bind ?_ (fun _ => ?_)
set_option maxHeartbeats 8000000 in
set_option maxRecDepth 100000 in
theorem impl_isSetting.calls (k : Nat) (A0 : Option Addr) (c0 : Nat) (l0 : List (S41)) (a1 : Int) (a2 : Int) (r : Bool) (w : World) (hr0 : Kd.C k41 w A0 l0.length l0) (hc0 : l0.length ≤ c0) (h : impl_isSetting.f k l0 a1 a2 = some r) :
  Calls Tryd.prog 32 #[.slice A0 l0.length c0, .int .i64 a1, .int .i64 a2] w fun e w' => e = .returned (.bool r) ∧ Below w.heap.size w w':=by
 have HR0:=Aside0.mk hr0
 have HC0:=Aside0.mk hc0
 clear hr0 hc0
 have HB:=Aside0.mk (Below.refl w.heap.size w)
 have H : ((impl_IsValidReadings.f k l0).bind fun t250 => (if t250 = true then ((impl_within.f a1 (-300) 300).bind fun t251 => (if t251 = true then ((impl_within.f a2 0 100).bind fun t252 => (some t252)) else (some false))) else (some false))) = some r:=h
 clear h
 replace H:=Option.bind_eq_some_iff.mp H
 obtain ⟨t250,A40,H⟩ := H
 replace H : (if t250 = true then ((impl_within.f a1 (-300) 300).bind fun t251 => (if t251 = true then ((impl_within.f a2 0 100).bind fun t252 => (some t252)) else (some false))) else (some false)) = some r:=H
 have A4:=Aside0.mk A40
 clear A40
 by_cases c5 : t250 = true
 ·subst c5
  have H1 : ((impl_within.f a1 (-300) 300).bind fun t251 => (if t251 = true then ((impl_within.f a2 0 100).bind fun t252 => (some t252)) else (some false))) = some r:=by rw [if_pos rfl] at H;exact H
  clear H
  have H:=H1
  clear H1
  replace H:=Option.bind_eq_some_iff.mp H
  obtain ⟨t251,A60,H⟩ := H
  replace H : (if t251 = true then ((impl_within.f a2 0 100).bind fun t252 => (some t252)) else (some false)) = some r:=H
  have A6:=Aside0.mk A60
  clear A60
  by_cases c7 : t251 = true
  ·subst c7
   have H1 : ((impl_within.f a2 0 100).bind fun t252 => (some t252)) = some r:=by rw [if_pos rfl] at H;exact H
   clear H
   have H:=H1
   clear H1
   replace H:=Option.bind_eq_some_iff.mp H
   obtain ⟨t252,A80,H⟩ := H
   replace H : (some t252) = some r:=H
   have A8:=Aside0.mk A80
   clear A80
   obtain rfl:=Option.some.inj H
   go_enter Tryd.func32,Tryd.ntmps32
   go_wp2_with (first | ((with_reducible refine gate_callee (f:=22) rfl ?_);refine goesL_ (some 8) rfl rfl Tryd.func22 (by kernel_rfl) rfl #[.slice A0 l0.length c0] rfl (by (try simp only [List.map_toArray,List.map_cons,List.map_nil]);rfl) ?_;(with_reducible refine (impl_IsValidReadings.calls k _ _ l0 true _ ?side1 ?side2 A4.out).mono ?_);(case side1 => repeat (exact HR0.out));(case side2 => exact HC0.out);rintro e w9 ⟨rfl,hb⟩;refine ⟨_,rfl, ?_⟩;have n0_:=Aside0.mk (below_step (by exact HB.out) hb);clear HB;have HB:=n0_;clear n0_;(try clear hb)) | (go_at_call 24;(with_reducible refine (impl_within.calls a1 (-300) 300 true _ A6.out).mono ?_);rintro e w' ⟨rfl,⟨nd,rfl⟩⟩) | (go_at_call 24;(with_reducible refine (impl_within.calls a2 0 100 t252 _ A8.out).mono ?_);rintro e w' ⟨rfl,⟨nd,rfl⟩⟩))
   go_ret
   exact ⟨by rfl,by repeat ((with_reducible first | exact HB.out | apply pw_below_drewN))⟩
  ·replace c7:=Bool.eq_false_iff.mpr c7
   subst c7
   have H1 : (some false) = some r:=by rw [if_neg (show ¬ (false = true) by decide)] at H;exact H
   clear H
   have H:=H1
   clear H1
   obtain rfl:=Option.some.inj H
   go_enter Tryd.func32,Tryd.ntmps32
   go_wp2_with (first | ((with_reducible refine gate_callee (f:=22) rfl ?_);refine goesL_ (some 8) rfl rfl Tryd.func22 (by kernel_rfl) rfl #[.slice A0 l0.length c0] rfl (by (try simp only [List.map_toArray,List.map_cons,List.map_nil]);rfl) ?_;(with_reducible refine (impl_IsValidReadings.calls k _ _ l0 true _ ?side1 ?side2 A4.out).mono ?_);(case side1 => repeat (exact HR0.out));(case side2 => exact HC0.out);rintro e w10 ⟨rfl,hb⟩;refine ⟨_,rfl, ?_⟩;have n0_:=Aside0.mk (below_step (by exact HB.out) hb);clear HB;have HB:=n0_;clear n0_;(try clear hb)) | (go_at_call 24;(with_reducible refine (impl_within.calls a1 (-300) 300 false _ A6.out).mono ?_);rintro e w' ⟨rfl,⟨nd,rfl⟩⟩))
   go_ret
   exact ⟨by rfl,by repeat ((with_reducible first | exact HB.out | apply pw_below_drewN))⟩
 ·replace c5:=Bool.eq_false_iff.mpr c5
  subst c5
  have H1 : (some false) = some r:=by rw [if_neg (show ¬ (false = true) by decide)] at H;exact H
  clear H
  have H:=H1
  clear H1
  obtain rfl:=Option.some.inj H
  go_enter Tryd.func32,Tryd.ntmps32
  go_wp2_with (((with_reducible refine gate_callee (f:=22) rfl ?_);refine goesL_ (some 8) rfl rfl Tryd.func22 (by kernel_rfl) rfl #[.slice A0 l0.length c0] rfl (by (try simp only [List.map_toArray,List.map_cons,List.map_nil]);rfl) ?_;(with_reducible refine (impl_IsValidReadings.calls k _ _ l0 false _ ?side1 ?side2 A4.out).mono ?_);(case side1 => repeat (exact HR0.out));(case side2 => exact HC0.out);rintro e w11 ⟨rfl,hb⟩;refine ⟨_,rfl, ?_⟩;have n0_:=Aside0.mk (below_step (by exact HB.out) hb);clear HB;have HB:=n0_;clear n0_;(try clear hb)))
  go_ret
  exact ⟨by rfl,by exact HB.out⟩

end Go.Proofs.YtpelcaijjdgnoaaDoor.PFnReadings
