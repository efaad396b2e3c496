-- Written by a program of this session, over the kit's print (wip/xprint.py)
import Derived.Test.YthbibjfnmljpkaaPFnTrainLoadingx0
import Derived.Test.YthbibjfnmljpkaaPFnTrainLoadingx1
import Derived.Test.YthbibjfnmljpkaaPFnTrainLoadingx2
import Derived.Test.YthbibjfnmljpkaaPFnTrainLoadingx3
import Derived.Test.YthbibjfnmljpkaaPFnTrainLoadingx4
import Derived.Test.YthbibjfnmljpkaaPFnTrainLoadingx5
namespace Go.Proofs.Ythbibjfnmljpkaa.PFnTrainLoading
open Go.RowKit Go.Proofs.YthbibjfnmljpkaaW.PrintWords Go.Proofs.YthbibjfnmljpkaaW.PrintLast Go.Proofs.YthbibjfnmljpkaaW.PrintMore
attribute [local go_sem] max2_int min2_int max_two min_two max_three min_three max_four min_four   -- for this text's walks alone
set_option linter.unusedVariables false
set_option linter.unusedSimpArgs false

/-! ### spec_l19Order: function 47 -/
mutual
def spec_l19Order.l0 : Nat → List (S54) → List (S64) → List Int → Int → Option (List Int)
 | 0,_,_,_,_ => none
 | k + 1,x0,x1,x5,x6 => if x6 < (x1.length : Int) then (if x5.length < 17592186044416 then (spec_l19Order.l1 k x0 x1 (x5 ++ [(-1)]) x6 0) else (none)) else (some x5)
def spec_l19Order.l1 : Nat → List (S54) → List (S64) → List Int → Int → Int → Option (List Int)
 | 0,_,_,_,_,_ => none
 | k + 1,x0,x1,x5,x6,x7 => if x7 < (x0.length : Int) then ((spec_l1Own.f x5).bind fun t467 => (if 0 ≤ x6 then (if x6 < (t467.length : Int) then ((some (t467.set (x6 : Int).toNat x7 : List Int)).bind fun y470 => ((spec_l19Fits.f k x0 x1 y470).bind fun t471 => (if t471 = true then (spec_l19Order.l0 k x0 x1 y470 (wrap64 (x6 + 1))) else (spec_l19Order.l1 k x0 x1 x5 x6 (wrap64 (x7 + 1)))))) else (none)) else (none))) else (spec_l19Order.l0 k x0 x1 x5 (wrap64 (x6 + 1)))
end
def spec_l19Order.f (k : Nat) (l0 : List (S54)) (l1 : List (S64)) : Option (List Int):=spec_l19Order.l0 k l0 l1 (([] : List Int)) 0
theorem spec_l19Order.mono_l : ∀ k,(∀ y0 y1 y2 y3,LeO (spec_l19Order.l0 k y0 y1 y2 y3) (spec_l19Order.l0 (k + 1) y0 y1 y2 y3)) ∧ (∀ y0 y1 y2 y3 y4,LeO (spec_l19Order.l1 k y0 y1 y2 y3 y4) (spec_l19Order.l1 (k + 1) y0 y1 y2 y3 y4))
 | 0 => ⟨fun _ _ _ _ r h => by simp [spec_l19Order.l0] at h,fun _ _ _ _ _ r h => by simp [spec_l19Order.l1] at h⟩
 | k + 1 => by
  obtain ⟨ih0,ih1⟩ := spec_l19Order.mono_l k;refine ⟨?_, ?_⟩
  ·intro y0 y1 y2 y3
   unfold spec_l19Order.l0
   repeat' first
   | (with_reducible exact ih0 _ _ _ _)
   | (with_reducible exact ih1 _ _ _ _ _)
   | (with_reducible exact spec_l19Fits.mono _ _ _ _)
   | (with_reducible exact LeO.refl _)
   | (with_reducible exact LeO.none _)
   | (with_reducible refine LeO.ite ?_ ?_)
   | (with_reducible refine LeO.bind ?_ (fun _ => ?_))
   | exact ih0 _ _ _ _
   | exact ih1 _ _ _ _ _
   | exact spec_l19Fits.mono _ _ _ _
   | exact LeO.none _
   | refine LeO.ite ?_ ?_
   | refine LeO.bind ?_ (fun _ => ?_)
  ·intro y0 y1 y2 y3 y4
   unfold spec_l19Order.l1
   repeat' first
   | (with_reducible exact ih0 _ _ _ _)
   | (with_reducible exact ih1 _ _ _ _ _)
   | (with_reducible exact spec_l19Fits.mono _ _ _ _)
   | (with_reducible exact LeO.refl _)
   | (with_reducible exact LeO.none _)
   | (with_reducible refine LeO.ite ?_ ?_)
   | (with_reducible refine LeO.bind ?_ (fun _ => ?_))
   | exact ih0 _ _ _ _
   | exact ih1 _ _ _ _ _
   | exact spec_l19Fits.mono _ _ _ _
   | exact LeO.none _
   | refine LeO.ite ?_ ?_
   | refine LeO.bind ?_ (fun _ => ?_)
theorem spec_l19Order.mono : ∀ a0 a1 k,LeO (spec_l19Order.f k a0 a1) (spec_l19Order.f (k + 1) a0 a1):=by
 intro a0 a1 k;obtain ⟨ih0,ih1⟩ := spec_l19Order.mono_l k
 unfold spec_l19Order.f
 repeat' first
   | (with_reducible exact ih0 _ _ _ _)
   | (with_reducible exact ih1 _ _ _ _ _)
   | (with_reducible exact spec_l19Fits.mono _ _ _ _)
   | (with_reducible exact LeO.refl _)
   | (with_reducible exact LeO.none _)
   | (with_reducible refine LeO.ite ?_ ?_)
   | (with_reducible refine LeO.bind ?_ (fun _ => ?_))
   | exact ih0 _ _ _ _
   | exact ih1 _ _ _ _ _
   | exact spec_l19Fits.mono _ _ _ _
   | exact LeO.none _
   | refine LeO.ite ?_ ?_
   | refine LeO.bind ?_ (fun _ => ?_)
set_option maxHeartbeats 8000000 in
set_option maxRecDepth 100000 in
theorem spec_l19Order.calls (k : Nat) (A0 : Option Addr) (c0 : Nat) (l0 : List (S54)) (A1 : Option Addr) (c1 : Nat) (l1 : List (S64)) (r : List Int) (w : World) (hr0 : Kd.C k54 w A0 l0.length l0) (hc0 : l0.length ≤ c0) (hr1 : Kd.C k64 w A1 l1.length l1) (hc1 : l1.length ≤ c1) (h : spec_l19Order.f k l0 l1 = some r) :
  Calls Try.prog 47 #[.slice A0 l0.length c0, .slice A1 l1.length c1] w fun e w' => ∃ v0_ : Value,e = .returned (v0_) ∧ Kd.R (Kd.int .i64) 3 w' w.heap.size (fun _ => True) v0_ r ∧ Below w.heap.size w w':=by
 have HR0:=am_ hr0;have HC0:=am_ hc0;clear hr0 hc0;have HR1:=am_ hr1;have HC1:=am_ hc1;clear hr1 hc1;have HB:=am_ (Below.refl w.heap.size w);have H : (spec_l19Order.l0 k l0 l1 (([] : List Int)) 0) = some r:=h;clear h;obtain ⟨y461,hy461⟩ : ∃ y_ : List Int,y_ = (([] : List Int)):=⟨_,rfl⟩
 replace H : (spec_l19Order.l0 k l0 l1 y461 0) = some r:=by (rw [hy461];with_reducible exact H)
 have Ny461:=am_ hy461;clear hy461;have H':=am_ H;clear H
 go_enter Try.func47,Try.ntmps47
 go_wp2_with (((with_reducible refine gate_dst (N:=9) rfl ?_);refine Kd.R_lit (Kd.int .i64) _ 3 ?hg (N:=9) ?hd (xs:=([] : List Int)) (inner := []) (ok:=fun _ => True) (okp:=fun _ => True) ?hr ?hp (fun _ hk => hk) trivial (Below.refl _ _) (Nat.le_refl _) (by simp) ?_;(case hd => rfl);(case hg => rfl);(case hr => (go_simp;done));(case hp => exact (Reps.none _ _));intro v462 w3 ho4 hb hg_ hnew_;clear hg_ hnew_;(rw [← Ny461.out] at ho4);have n0_:=am_ (Kd.R_lower ho4 (below_size (by exact HB.out)));have n1_:=am_ (below_step (by exact HB.out) hb);clear HB;have HO463:=n0_;have HB:=n1_;clear n0_ n1_;clear hb ho4))
 go_loopg [5,6] k (fun kq v5 v6 w' => ∃ (x5_1 : List Int) (x6_1 : Int),v6 = .int .i64 x6_1 ∧ Aside0 (spec_l19Order.l0 kq l0 l1 x5_1 x6_1 = some r) ∧ Aside0 (kq ≤ k) ∧ Aside0 (Kd.R (Kd.int .i64) 3 w' w.heap.size (fun _ => True) v5 x5_1) ∧ Aside0 (Below w.heap.size w w'))
 case atStart => exact ⟨(y461),(0),(by rfl),H',⟨Nat.le_refl _⟩,⟨by exact HO463.out⟩,⟨by exact HB.out⟩⟩
 case round =>
  clear H';(try clear c1);(try clear p2);(try clear c4);obtain ⟨x5_1,x6_1,rfl,HA,HK1,HO_5,HB⟩ := hrel
  cases gk with
  | zero => exact absurd HA.out (by simp [spec_l19Order.l0])
  | succ k1 =>
   have H:=HA.out;clear HA;simp only [spec_l19Order.l0] at H
   by_cases c5 : x6_1 < (l1.length : Int)
   ·rw [if_pos c5] at H;have c5b0 : decide (x6_1 < (l1.length : Int)) = true:=decide_eq_true c5;clear c5
    by_cases c6 : x5_1.length < 17592186044416
    ·rw [if_pos c6] at H;have LMc6:=am_ c6;clear c6;obtain ⟨y464,hy464⟩ : ∃ y_ : List Int,y_ = (x5_1 ++ [(-1)]):=⟨_,rfl⟩
     replace H : (spec_l19Order.l1 k1 l0 l1 y464 x6_1 0) = some r:=by (rw [hy464];with_reducible exact H)
     have Ny464:=am_ hy464;clear hy464;have H':=am_ H;clear H
     go_wp2_with (((with_reducible refine gate_builtin (b := .append) (xs:=#[.tmp 16, .tmp 17]) rfl ?_);at_builtin;refine Kd.R_append (Kd.int .i64) (w0:=w) w.heap.size rfl (.tmp 16) (.tmp 17) 39 3 (.int .i64 0) 8 rfl Try.underlying39 info3 rfl (by decide) (by omega) u5 x5_1 (-1) [.int .i64 (-1)] (fun _ => True) (fun _ => False) rfl rfl ?aP (fun _ hk => hk.elim) ?aF ?aO ?aB ?aS ?aL ?_;(case aP => exact rfl);(case aB => exact (by exact HB.out));(case aF => exact (fun _ _ => trivial));(case aO => exact (by exact HO_5.out));(case aS => exact (below_size (by exact HB.out)));(case aL => have:=LMc6.out;omega);intro v465 w7 ho hb hg hat;rw [← Ny464.out] at ho;have n0_:=am_ hb;have n1_:=am_ (ho);clear HB;clear HO_5;have HB:=n0_;have HO466:=n1_;clear n0_ n1_;clear ho hb hg hat))
     (skip)
     go_loopg [5,7] k1 (fun kq v5 v7 w' => ∃ (x5_2 : List Int) (x7_2 : Int),v7 = .int .i64 x7_2 ∧ Aside0 (spec_l19Order.l1 kq l0 l1 x5_2 x6_1 x7_2 = some r) ∧ Aside0 (kq ≤ k1) ∧ Aside0 (Kd.R (Kd.int .i64) 3 w' w.heap.size (fun _ => True) v5 x5_2) ∧ Aside0 (Below w.heap.size w w'))
     case atStart => exact ⟨(y464),(0),(by rfl),H',⟨Nat.le_refl _⟩,⟨by exact HO466.out⟩,⟨by exact HB.out⟩⟩
     case round =>
      clear H';(try clear c1);(try clear p2);(try clear c4);(try clear c5);(try clear c5b0);(try clear c6);(try clear p2);obtain ⟨x5_2,x7_2,rfl,HA,HK2,HO_5,HB⟩ := hrel
      cases gk with
      | zero => exact absurd HA.out (by simp [spec_l19Order.l1])
      | succ k2 =>
       have H:=HA.out;clear HA;simp only [spec_l19Order.l1] at H
       by_cases c8 : x7_2 < (l0.length : Int)
       ·rw [if_pos c8] at H;have c8b0 : decide (x7_2 < (l0.length : Int)) = true:=decide_eq_true c8;clear c8;replace H:=Option.bind_eq_some_iff.mp H;obtain ⟨t467,A90,H⟩ := H;replace H : (if 0 ≤ x6_1 then (if x6_1 < (t467.length : Int) then ((some (t467.set (x6_1 : Int).toNat x7_2 : List Int)).bind fun y470 => ((spec_l19Fits.f k2 l0 l1 y470).bind fun t471 => (if t471 = true then (spec_l19Order.l0 k2 l0 l1 y470 (wrap64 (x6_1 + 1))) else (spec_l19Order.l1 k2 l0 l1 x5_2 x6_1 (wrap64 (x7_2 + 1)))))) else (none)) else (none)) = some r:=H;have A9:=am_ A90;clear A90
        by_cases c10 : 0 ≤ x6_1
        ·rw [if_pos c10] at H;have c10b0 : decide (0 ≤ x6_1) = true:=decide_eq_true c10;clear c10
         by_cases c11 : x6_1 < (t467.length : Int)
         ·rw [if_pos c11] at H;have c11b0 : decide (x6_1 < (t467.length : Int)) = true:=decide_eq_true c11;clear c11;obtain ⟨y470,hy470⟩ : ∃ y_ : List Int,y_ = (t467.set (x6_1 : Int).toNat x7_2):=⟨_,rfl⟩
          replace H : ((spec_l19Fits.f k2 l0 l1 y470).bind fun t471 => (if t471 = true then (spec_l19Order.l0 k2 l0 l1 y470 (wrap64 (x6_1 + 1))) else (spec_l19Order.l1 k2 l0 l1 x5_2 x6_1 (wrap64 (x7_2 + 1))))) = some r:=by (have H2_:=(Option.bind_some _ _).symm.trans H;rw [hy470];with_reducible exact H2_)
          have Ny470:=am_ hy470;clear hy470;replace H:=Option.bind_eq_some_iff.mp H;obtain ⟨t471,A130,H⟩ := H;replace H : (if t471 = true then (spec_l19Order.l0 k2 l0 l1 y470 (wrap64 (x6_1 + 1))) else (spec_l19Order.l1 k2 l0 l1 x5_2 x6_1 (wrap64 (x7_2 + 1)))) = some r:=H;have A13:=am_ A130;clear A130
          by_cases c14 : t471 = true
          ·subst c14
           have H1 : (spec_l19Order.l0 k2 l0 l1 y470 (wrap64 (x6_1 + 1))) = some r:=by rw [if_pos rfl] at H;exact H
           clear H;have H:=H1;clear H1;have H':=am_ H;clear H;obtain ⟨Ao15,co15,eo15⟩ := Kd.R_slice HO_5.out;subst eo15
           go_wp2_with (first | ((with_reducible refine gate_callee (f:=66) rfl ?_);refine goesL_ (some 26) rfl rfl Try.func66 (by kernel_rfl) rfl #[.slice Ao15 x5_2.length co15] rfl (by (try simp only [List.map_toArray,List.map_cons,List.map_nil]);rfl) ?_;(with_reducible refine (spec_l1Own.calls _ _ x5_2 t467 _ ?side1 ?side2 A9.out).mono ?_);(case side1 => repeat (exact (Kd.R_reads' HO_5.out).2.2));(case side2 => exact (Kd.R_reads' HO_5.out).2.1);rintro e w16 ⟨v468,rfl,ho0,hb⟩;refine ⟨_,rfl, ?_⟩;have n0_:=am_ (Kd.R_elder' (by exact HO_5.out) (Kd.R_base ho0) hb);have n1_:=am_ (Kd.R_lower (Kd.R_new' ho0 (Kd.R_lt (by exact HO_5.out))) (below_size (by exact HB.out)));have n2_:=am_ (below_step (by exact HB.out) hb);clear HO_5;clear HB;have HO_5:=n0_;have HO469:=n1_;have HB:=n2_;clear n0_ n1_ n2_;(try clear hb);(try clear ho0);have p12 : 0 ≤ (x6_1 : Int):=of_decide_eq_true (by (with_reducible assumption));have q12 : (x6_1 : Int) < ((t467.length : Int) : Int):=of_decide_eq_true (by (with_reducible assumption));obtain ⟨go12,co12,eo12,gb12,gl12,cl12,HG12⟩ := Kd.R_form HO469.out (by omega);(cases eo12);have GB12:=am_ gb12;have GG12:=am_ HG12;clear gb12 gl12 HG12;obtain ⟨hx12_0,hf12_0⟩ := Kd.R_celln 0 HO469.out (x6_1 : Int) p12 q12;replace p12:=eq_true p12;replace q12:=eq_true q12;have n_:=am_ (Kd.R_mono (ok':=(fun k_ => some k_ ≠ (.slice Ao15 x5_2.length co15 : Value).ownBlock)) HO469.out (fun k_ hk => hk.2));clear HO469;have HO469:=n_;clear n_;obtain ⟨hy17_,hz17_⟩ := Kd.R_celln 0 HO469.out (x6_1 : Int) (of_decide_eq_true (by (with_reducible assumption))) (of_decide_eq_true (by (with_reducible assumption)));have HP17:=Kd.R_putg HO469.out (x6_1 : Int) x7_2) | ((with_reducible refine gate_store (t:=3) (p:=30) rfl ?_);refine store_event (t:=3) (p:=30) (v:=?vo_w18) (w1:=(w16.setCell ⟨go12,(x6_1 : Int).toNat,none⟩ (.int .i64 x7_2))) ?hg ?ho ?hn ?hr ?_;(case ho => rfl);(case hg => rfl);(case hn => rfl);(case hr => (go_simp;done));intro w18 hw;have hg : w16.grownBy w18 (some go12):=(by rw [hw];exact HP17.2);have hp_ : Kd.R (Kd.int .i64) 3 w18 w.heap.size (fun k_ => some k_ ≠ (.slice Ao15 x5_2.length co15 : Value).ownBlock) (.slice (some ⟨go12,0,none⟩) t467.length co12) y470:=(by rw [hw,Ny470.out];exact HP17.1);clear HP17;have n0_:=am_ (Kd.R_after (v:=(.slice (some ⟨go12,0,none⟩) t467.length co12)) (v1:=(.slice (some ⟨go12,0,none⟩) t467.length co12)) (ok:=(fun _ => True)) (by exact HO_5.out) hg (.inl rfl));have n1_:=am_ (hp_);have n2_:=am_ ((by rw [hw];exact below_set (HB.out) GB12.out : Below w.heap.size w w18));clear HO_5;clear HO469;clear HB;have HO_5:=n0_;have HO469:=n1_;have HB:=n2_;clear n0_ n1_ n2_;clear hg hw hp_) | ((with_reducible refine gate_callee (f:=67) rfl ?_);refine goesL_ (some 34) rfl rfl Try.func67 (by kernel_rfl) rfl #[.slice A0 l0.length c0, .slice A1 l1.length c1, .slice (some ⟨go12,0,none⟩) y470.length co12] rfl (by (try simp only [List.map_toArray,List.map_cons,List.map_nil]);(rw [show y470.length = t467.length from (Kd.R_reads' HO469.out).1.symm] <;> rfl)) ?_;(with_reducible refine (spec_l19Fits.calls k2 _ _ l0 _ _ l1 _ _ y470 true _ ?side1 ?side2 ?side3 ?side4 ?side5 ?side6 A13.out).mono ?_);(case side1 => repeat (exact (Kd.C_below HR0.out HB.out)));(case side2 => exact HC0.out);(case side3 => repeat (exact (Kd.C_below HR1.out HB.out)));(case side4 => exact HC1.out);(case side5 => repeat (exact (Kd.R_reads' HO469.out).2.2));(case side6 => rw [show y470.length = t467.length from (Kd.R_reads' HO469.out).1.symm];exact (Kd.R_reads' HO469.out).2.1);rintro e w' ⟨rfl,⟨nd,rfl⟩⟩;refine ⟨_,rfl, ?_⟩))
           go_roundg k2
           case measure => have:=HK1.out;have:=HK2.out;omega
           case rel => exact ⟨(y470),(wrap64 (x6_1 + 1)),(by rfl),H',⟨by have:=HK1.out;have:=HK2.out;omega⟩,⟨by (with_reducible repeat (apply Kd.R_drewN));exact Kd.R_mono HO469.out (fun _ hk => trivial)⟩,⟨by repeat ((with_reducible first | exact HB.out | apply pw_below_drewN))⟩⟩
          ·replace c14:=Bool.eq_false_iff.mpr c14;subst c14
           have H1 : (spec_l19Order.l1 k2 l0 l1 x5_2 x6_1 (wrap64 (x7_2 + 1))) = some r:=by rw [if_neg (show ¬ (false = true) by decide)] at H;exact H
           clear H;have H:=H1;clear H1;have H':=am_ H;clear H;obtain ⟨Ao19,co19,eo19⟩ := Kd.R_slice HO_5.out;subst eo19
           go_wp2_with (first | ((with_reducible refine gate_callee (f:=66) rfl ?_);refine goesL_ (some 26) rfl rfl Try.func66 (by kernel_rfl) rfl #[.slice Ao19 x5_2.length co19] rfl (by (try simp only [List.map_toArray,List.map_cons,List.map_nil]);rfl) ?_;(with_reducible refine (spec_l1Own.calls _ _ x5_2 t467 _ ?side1 ?side2 A9.out).mono ?_);(case side1 => repeat (exact (Kd.R_reads' HO_5.out).2.2));(case side2 => exact (Kd.R_reads' HO_5.out).2.1);rintro e w20 ⟨v468,rfl,ho0,hb⟩;refine ⟨_,rfl, ?_⟩;have n0_:=am_ (Kd.R_elder' (by exact HO_5.out) (Kd.R_base ho0) hb);have n1_:=am_ (Kd.R_lower (Kd.R_new' ho0 (Kd.R_lt (by exact HO_5.out))) (below_size (by exact HB.out)));have n2_:=am_ (below_step (by exact HB.out) hb);clear HO_5;clear HB;have HO_5:=n0_;have HO469:=n1_;have HB:=n2_;clear n0_ n1_ n2_;(try clear hb);(try clear ho0);have p12 : 0 ≤ (x6_1 : Int):=of_decide_eq_true (by (with_reducible assumption));have q12 : (x6_1 : Int) < ((t467.length : Int) : Int):=of_decide_eq_true (by (with_reducible assumption));obtain ⟨go12,co12,eo12,gb12,gl12,cl12,HG12⟩ := Kd.R_form HO469.out (by omega);(cases eo12);have GB12:=am_ gb12;have GG12:=am_ HG12;clear gb12 gl12 HG12;obtain ⟨hx12_0,hf12_0⟩ := Kd.R_celln 0 HO469.out (x6_1 : Int) p12 q12;replace p12:=eq_true p12;replace q12:=eq_true q12;have n_:=am_ (Kd.R_mono (ok':=(fun k_ => some k_ ≠ (.slice Ao19 x5_2.length co19 : Value).ownBlock)) HO469.out (fun k_ hk => hk.2));clear HO469;have HO469:=n_;clear n_;obtain ⟨hy21_,hz21_⟩ := Kd.R_celln 0 HO469.out (x6_1 : Int) (of_decide_eq_true (by (with_reducible assumption))) (of_decide_eq_true (by (with_reducible assumption)));have HP21:=Kd.R_putg HO469.out (x6_1 : Int) x7_2) | ((with_reducible refine gate_store (t:=3) (p:=30) rfl ?_);refine store_event (t:=3) (p:=30) (v:=?vo_w22) (w1:=(w20.setCell ⟨go12,(x6_1 : Int).toNat,none⟩ (.int .i64 x7_2))) ?hg ?ho ?hn ?hr ?_;(case ho => rfl);(case hg => rfl);(case hn => rfl);(case hr => (go_simp;done));intro w22 hw;have hg : w20.grownBy w22 (some go12):=(by rw [hw];exact HP21.2);have hp_ : Kd.R (Kd.int .i64) 3 w22 w.heap.size (fun k_ => some k_ ≠ (.slice Ao19 x5_2.length co19 : Value).ownBlock) (.slice (some ⟨go12,0,none⟩) t467.length co12) y470:=(by rw [hw,Ny470.out];exact HP21.1);clear HP21;have n0_:=am_ (Kd.R_after (v:=(.slice (some ⟨go12,0,none⟩) t467.length co12)) (v1:=(.slice (some ⟨go12,0,none⟩) t467.length co12)) (ok:=(fun _ => True)) (by exact HO_5.out) hg (.inl rfl));have n1_:=am_ (hp_);have n2_:=am_ ((by rw [hw];exact below_set (HB.out) GB12.out : Below w.heap.size w w22));clear HO_5;clear HO469;clear HB;have HO_5:=n0_;have HO469:=n1_;have HB:=n2_;clear n0_ n1_ n2_;clear hg hw hp_) | ((with_reducible refine gate_callee (f:=67) rfl ?_);refine goesL_ (some 34) rfl rfl Try.func67 (by kernel_rfl) rfl #[.slice A0 l0.length c0, .slice A1 l1.length c1, .slice (some ⟨go12,0,none⟩) y470.length co12] rfl (by (try simp only [List.map_toArray,List.map_cons,List.map_nil]);(rw [show y470.length = t467.length from (Kd.R_reads' HO469.out).1.symm] <;> rfl)) ?_;(with_reducible refine (spec_l19Fits.calls k2 _ _ l0 _ _ l1 _ _ y470 false _ ?side1 ?side2 ?side3 ?side4 ?side5 ?side6 A13.out).mono ?_);(case side1 => repeat (exact (Kd.C_below HR0.out HB.out)));(case side2 => exact HC0.out);(case side3 => repeat (exact (Kd.C_below HR1.out HB.out)));(case side4 => exact HC1.out);(case side5 => repeat (exact (Kd.R_reads' HO469.out).2.2));(case side6 => rw [show y470.length = t467.length from (Kd.R_reads' HO469.out).1.symm];exact (Kd.R_reads' HO469.out).2.1);rintro e w' ⟨rfl,⟨nd,rfl⟩⟩;refine ⟨_,rfl, ?_⟩))
           go_roundg k2
           case measure => have:=HK1.out;have:=HK2.out;omega
           case rel => exact ⟨(x5_2),(wrap64 (x7_2 + 1)),(by rfl),H',⟨by have:=HK1.out;have:=HK2.out;omega⟩,⟨by (with_reducible repeat (apply Kd.R_drewN));exact Kd.R_mono HO_5.out (fun _ hk => trivial)⟩,⟨by repeat ((with_reducible first | exact HB.out | apply pw_below_drewN))⟩⟩
         ·rw [if_neg c11] at H
          exact absurd H (by simp)
        ·rw [if_neg c10] at H
         exact absurd H (by simp)
       ·rw [if_neg c8] at H;have c8b0 : decide (x7_2 < (l0.length : Int)) = false:=decide_eq_false c8;clear c8;have H':=am_ H;clear H
        go_wp2
        go_roundg k2
        case measure => have:=HK1.out;have:=HK2.out;omega
        case rel => exact ⟨(x5_2),(wrap64 (x6_1 + 1)),(by rfl),H',⟨by have:=HK1.out;have:=HK2.out;omega⟩,⟨by exact HO_5.out⟩,⟨by exact HB.out⟩⟩
    ·rw [if_neg c6] at H
     exact absurd H (by simp)
   ·rw [if_neg c5] at H;have c5b0 : decide (x6_1 < (l1.length : Int)) = false:=decide_eq_false c5;clear c5;obtain rfl:=Option.some.inj H
    go_wp2
    go_ret
    exact ⟨_,by rfl,by exact HO_5.out,by exact HB.out⟩

/-! ### spec_LoadInOrder: function 16 -/
def spec_LoadInOrder.f (k : Nat) (l0 : List (S54)) (l1 : List (S64)) : Option (List Int × Bool):=(spec_l19Train.f k l0).bind fun t472 => (if t472 = true then ((spec_l2List.f k l1).bind fun t473 => (if t473 = true then ((spec_l19Order.f k l0 l1).bind fun t474 => (some (t474,true))) else (some ((([] : List Int)),false)))) else (some ((([] : List Int)),false)))
theorem spec_LoadInOrder.mono : ∀ a0 a1 k,LeO (spec_LoadInOrder.f k a0 a1) (spec_LoadInOrder.f (k + 1) a0 a1):=by
 intro a0 a1 k
 unfold spec_LoadInOrder.f
 repeat' first
   | (with_reducible exact spec_l19Order.mono _ _ _)
   | (with_reducible exact spec_l19Train.mono _ _)
   | (with_reducible exact spec_l2List.mono _ _)
   | (with_reducible exact LeO.refl _)
   | (with_reducible exact LeO.none _)
   | (with_reducible refine LeO.ite ?_ ?_)
   | (with_reducible refine LeO.bind ?_ (fun _ => ?_))
   | exact spec_l19Order.mono _ _ _
   | exact spec_l19Train.mono _ _
   | exact spec_l2List.mono _ _
   | exact LeO.none _
   | refine LeO.ite ?_ ?_
   | refine LeO.bind ?_ (fun _ => ?_)
set_option maxHeartbeats 8000000 in
set_option maxRecDepth 100000 in
theorem spec_LoadInOrder.calls (k : Nat) (A0 : Option Addr) (c0 : Nat) (l0 : List (S54)) (A1 : Option Addr) (c1 : Nat) (l1 : List (S64)) (r1 : List Int) (r2 : Bool) (w : World) (hr0 : Kd.C k54 w A0 l0.length l0) (hc0 : l0.length ≤ c0) (hr1 : Kd.C k64 w A1 l1.length l1) (hc1 : l1.length ≤ c1) (h : spec_LoadInOrder.f k l0 l1 = some (r1,r2)) :
  Calls Try.prog 16 #[.slice A0 l0.length c0, .slice A1 l1.length c1] w fun e w' => ∃ v0_ : Value,e = .returned (.tuple #[v0_, .bool r2]) ∧ Kd.R (Kd.int .i64) 3 w' w.heap.size (fun _ => True) v0_ r1 ∧ Below w.heap.size w w':=by
 have HR0:=am_ hr0;have HC0:=am_ hc0;clear hr0 hc0;have HR1:=am_ hr1;have HC1:=am_ hc1;clear hr1 hc1;have HB:=am_ (Below.refl w.heap.size w);have H : ((spec_l19Train.f k l0).bind fun t472 => (if t472 = true then ((spec_l2List.f k l1).bind fun t473 => (if t473 = true then ((spec_l19Order.f k l0 l1).bind fun t474 => (some (t474,true))) else (some ((([] : List Int)),false)))) else (some ((([] : List Int)),false)))) = some (r1,r2):=h;clear h;replace H:=Option.bind_eq_some_iff.mp H;obtain ⟨t472,A30,H⟩ := H;replace H : (if t472 = true then ((spec_l2List.f k l1).bind fun t473 => (if t473 = true then ((spec_l19Order.f k l0 l1).bind fun t474 => (some (t474,true))) else (some ((([] : List Int)),false)))) else (some ((([] : List Int)),false))) = some (r1,r2):=H;have A3:=am_ A30;clear A30
 by_cases c4 : t472 = true
 ·subst c4
  have H1 : ((spec_l2List.f k l1).bind fun t473 => (if t473 = true then ((spec_l19Order.f k l0 l1).bind fun t474 => (some (t474,true))) else (some ((([] : List Int)),false)))) = some (r1,r2):=by rw [if_pos rfl] at H;exact H
  clear H;have H:=H1;clear H1;replace H:=Option.bind_eq_some_iff.mp H;obtain ⟨t473,A50,H⟩ := H;replace H : (if t473 = true then ((spec_l19Order.f k l0 l1).bind fun t474 => (some (t474,true))) else (some ((([] : List Int)),false))) = some (r1,r2):=H;have A5:=am_ A50;clear A50
  by_cases c6 : t473 = true
  ·subst c6
   have H1 : ((spec_l19Order.f k l0 l1).bind fun t474 => (some (t474,true))) = some (r1,r2):=by rw [if_pos rfl] at H;exact H
   clear H;have H:=H1;clear H1;replace H:=Option.bind_eq_some_iff.mp H;obtain ⟨t474,A70,H⟩ := H;replace H : (some (t474,true)) = some (r1,r2):=H;have A7:=am_ A70;clear A70;simp only [Option.some.injEq,Prod.mk.injEq] at H;obtain ⟨rfl,rfl⟩ := H
   go_enter Try.func16,Try.ntmps16
   go_wp2_with (first | ((with_reducible refine gate_callee (f:=31) rfl ?_);refine goesL_ (some 7) rfl rfl Try.func31 (by kernel_rfl) rfl #[.slice A0 l0.length c0] rfl (by (try simp only [List.map_toArray,List.map_cons,List.map_nil]);rfl) ?_;(with_reducible refine (spec_l19Train.calls k _ _ l0 true _ ?side1 ?side2 A3.out).mono ?_);(case side1 => repeat (exact HR0.out));(case side2 => exact HC0.out);rintro e w' ⟨rfl,⟨nd,rfl⟩⟩;refine ⟨_,rfl, ?_⟩) | (go_at_call 32;(with_reducible refine (spec_l2List.calls k _ _ l1 true _ ?side1 ?side2 A5.out).mono ?_);(case side1 => repeat (exact HR1.out));(case side2 => exact HC1.out);rintro e w8 ⟨rfl,hb⟩;have n0_:=am_ (below_step (by repeat ((with_reducible first | exact HB.out | apply pw_below_drewN))) hb);clear HB;have HB:=n0_;clear n0_;(try clear hb)) | ((with_reducible refine gate_callee (f:=47) rfl ?_);refine goesL_ (some 17) rfl rfl Try.func47 (by kernel_rfl) rfl #[.slice A0 l0.length c0, .slice A1 l1.length c1] rfl (by (try simp only [List.map_toArray,List.map_cons,List.map_nil]);rfl) ?_;(with_reducible refine (spec_l19Order.calls k _ _ l0 _ _ l1 t474 _ ?side1 ?side2 ?side3 ?side4 A7.out).mono ?_);(case side1 => repeat (exact (Kd.C_below HR0.out HB.out)));(case side2 => exact HC0.out);(case side3 => repeat (exact (Kd.C_below HR1.out HB.out)));(case side4 => exact HC1.out);rintro e w9 ⟨v475,rfl,ho0,hb⟩;refine ⟨_,rfl, ?_⟩;have n0_:=am_ (Kd.R_lower ho0 (below_size (by exact HB.out)));have n1_:=am_ (below_step (by exact HB.out) hb);clear HB;have HO476:=n0_;have HB:=n1_;clear n0_ n1_;(try clear hb);(try clear ho0)))
   go_ret2
   exact ⟨_,by rfl,by exact HO476.out,by exact HB.out⟩
  ·replace c6:=Bool.eq_false_iff.mpr c6;subst c6
   have H1 : (some ((([] : List Int)),false)) = some (r1,r2):=by rw [if_neg (show ¬ (false = true) by decide)] at H;exact H
   clear H;have H:=H1;clear H1;obtain ⟨y477,hy477⟩ : ∃ y_ : List Int,y_ = (([] : List Int)):=⟨_,rfl⟩
   replace H : (some (y477,false)) = some (r1,r2):=by (rw [hy477];with_reducible exact H)
   have Ny477:=am_ hy477;clear hy477;simp only [Option.some.injEq,Prod.mk.injEq] at H;obtain ⟨rfl,rfl⟩ := H
   go_enter Try.func16,Try.ntmps16
   go_wp2_with (first | ((with_reducible refine gate_callee (f:=31) rfl ?_);refine goesL_ (some 7) rfl rfl Try.func31 (by kernel_rfl) rfl #[.slice A0 l0.length c0] rfl (by (try simp only [List.map_toArray,List.map_cons,List.map_nil]);rfl) ?_;(with_reducible refine (spec_l19Train.calls k _ _ l0 true _ ?side1 ?side2 A3.out).mono ?_);(case side1 => repeat (exact HR0.out));(case side2 => exact HC0.out);rintro e w' ⟨rfl,⟨nd,rfl⟩⟩;refine ⟨_,rfl, ?_⟩) | (go_at_call 32;(with_reducible refine (spec_l2List.calls k _ _ l1 false _ ?side1 ?side2 A5.out).mono ?_);(case side1 => repeat (exact HR1.out));(case side2 => exact HC1.out);rintro e w10 ⟨rfl,hb⟩;have n0_:=am_ (below_step (by repeat ((with_reducible first | exact HB.out | apply pw_below_drewN))) hb);clear HB;have HB:=n0_;clear n0_;(try clear hb)) | ((with_reducible refine gate_dst (N:=14) rfl ?_);refine Kd.R_lit (Kd.int .i64) _ 3 ?hg (N:=14) ?hd (xs:=([] : List Int)) (inner := []) (ok:=fun _ => True) (okp:=fun _ => True) ?hr ?hp (fun _ hk => hk) trivial (Below.refl _ _) (Nat.le_refl _) (by simp) ?_;(case hd => rfl);(case hg => rfl);(case hr => (go_simp;done));(case hp => exact (Reps.none _ _));intro v478 w11 ho12 hb hg_ hnew_;clear hg_ hnew_;(rw [← Ny477.out] at ho12);have n0_:=am_ (Kd.R_lower ho12 (below_size (by exact HB.out)));have n1_:=am_ (below_step (by exact HB.out) hb);clear HB;have HO479:=n0_;have HB:=n1_;clear n0_ n1_;clear hb ho12))
   go_ret2
   exact ⟨_,by rfl,by exact HO479.out,by exact HB.out⟩
 ·replace c4:=Bool.eq_false_iff.mpr c4;subst c4
  have H1 : (some ((([] : List Int)),false)) = some (r1,r2):=by rw [if_neg (show ¬ (false = true) by decide)] at H;exact H
  clear H;have H:=H1;clear H1;obtain ⟨y480,hy480⟩ : ∃ y_ : List Int,y_ = (([] : List Int)):=⟨_,rfl⟩
  replace H : (some (y480,false)) = some (r1,r2):=by (rw [hy480];with_reducible exact H)
  have Ny480:=am_ hy480;clear hy480;simp only [Option.some.injEq,Prod.mk.injEq] at H;obtain ⟨rfl,rfl⟩ := H
  go_enter Try.func16,Try.ntmps16
  go_wp2_with (first | ((with_reducible refine gate_callee (f:=31) rfl ?_);refine goesL_ (some 7) rfl rfl Try.func31 (by kernel_rfl) rfl #[.slice A0 l0.length c0] rfl (by (try simp only [List.map_toArray,List.map_cons,List.map_nil]);rfl) ?_;(with_reducible refine (spec_l19Train.calls k _ _ l0 false _ ?side1 ?side2 A3.out).mono ?_);(case side1 => repeat (exact HR0.out));(case side2 => exact HC0.out);rintro e w' ⟨rfl,⟨nd,rfl⟩⟩;refine ⟨_,rfl, ?_⟩) | ((with_reducible refine gate_dst (N:=14) rfl ?_);refine Kd.R_lit (Kd.int .i64) _ 3 ?hg (N:=14) ?hd (xs:=([] : List Int)) (inner := []) (ok:=fun _ => True) (okp:=fun _ => True) ?hr ?hp (fun _ hk => hk) trivial (Below.refl _ _) (Nat.le_refl _) (by simp) ?_;(case hd => rfl);(case hg => rfl);(case hr => (go_simp;done));(case hp => exact (Reps.none _ _));intro v481 w13 ho14 hb hg_ hnew_;clear hg_ hnew_;(rw [← Ny480.out] at ho14);have n0_:=am_ (Kd.R_lower ho14 (below_size (by repeat ((with_reducible first | exact HB.out | apply pw_below_drewN)))));have n1_:=am_ (below_step (by repeat ((with_reducible first | exact HB.out | apply pw_below_drewN))) hb);clear HB;have HO482:=n0_;have HB:=n1_;clear n0_ n1_;clear hb ho14))
  go_ret2
  exact ⟨_,by rfl,by exact HO482.out,by exact HB.out⟩

/-! ### laws_rInts: function 17 -/
def laws_rInts.l0 : Nat → List Int → List Int → Int → Option (Bool)
 | 0,_,_,_ => none
 | k + 1,x0,x1,x5 => if x5 < (x0.length : Int) then (if 0 ≤ x5 then (if x5 < (x1.length : Int) then (if (rd x0 x5) = (rd x1 x5) then (laws_rInts.l0 k x0 x1 (wrap64 (x5 + 1))) else (some false)) else (none)) else (none)) else (some true)
def laws_rInts.f (k : Nat) (l0 : List Int) (l1 : List Int) : Option (Bool):=if (l0.length : Int) = (l1.length : Int) then (laws_rInts.l0 k l0 l1 0) else (some false)
theorem laws_rInts.mono_l : ∀ k,(∀ y0 y1 y2,LeO (laws_rInts.l0 k y0 y1 y2) (laws_rInts.l0 (k + 1) y0 y1 y2))
 | 0 => fun _ _ _ r h => by simp [laws_rInts.l0] at h
 | k + 1 => by
  have ih0:=laws_rInts.mono_l k
  ·intro y0 y1 y2
   unfold laws_rInts.l0
   repeat' first
   | (with_reducible exact ih0 _ _ _)
   | (with_reducible exact LeO.refl _)
   | (with_reducible exact LeO.none _)
   | (with_reducible refine LeO.ite ?_ ?_)
   | (with_reducible refine LeO.bind ?_ (fun _ => ?_))
   | exact ih0 _ _ _
   | exact LeO.none _
   | refine LeO.ite ?_ ?_
   | refine LeO.bind ?_ (fun _ => ?_)
theorem laws_rInts.mono : ∀ a0 a1 k,LeO (laws_rInts.f k a0 a1) (laws_rInts.f (k + 1) a0 a1):=by
 intro a0 a1 k;have ih0:=laws_rInts.mono_l k
 unfold laws_rInts.f
 repeat' first
   | (with_reducible exact ih0 _ _ _)
   | (with_reducible exact LeO.refl _)
   | (with_reducible exact LeO.none _)
   | (with_reducible refine LeO.ite ?_ ?_)
   | (with_reducible refine LeO.bind ?_ (fun _ => ?_))
   | exact ih0 _ _ _
   | exact LeO.none _
   | refine LeO.ite ?_ ?_
   | refine LeO.bind ?_ (fun _ => ?_)
set_option maxHeartbeats 8000000 in
set_option maxRecDepth 100000 in
theorem laws_rInts.calls (k : Nat) (A0 : Option Addr) (c0 : Nat) (l0 : List Int) (A1 : Option Addr) (c1 : Nat) (l1 : List Int) (r : Bool) (w : World) (hr0 : Kd.C (Kd.int .i64) w A0 l0.length l0) (hc0 : l0.length ≤ c0) (hr1 : Kd.C (Kd.int .i64) w A1 l1.length l1) (hc1 : l1.length ≤ c1) (h : laws_rInts.f k l0 l1 = some r) :
  Calls Try.prog 17 #[.slice A0 l0.length c0, .slice A1 l1.length c1] w fun e w' => e = .returned (.bool r) ∧ Drawn0 w w':=by
 have HR0:=am_ hr0;have HC0:=am_ hc0;clear hr0 hc0;have HR1:=am_ hr1;have HC1:=am_ hc1;clear hr1 hc1;have H : (if (l0.length : Int) = (l1.length : Int) then (laws_rInts.l0 k l0 l1 0) else (some false)) = some r:=h;clear h
 by_cases c3 : (l0.length : Int) = (l1.length : Int)
 ·rw [if_pos c3] at H;have c3b0 : ((l0.length : Int) == (l1.length : Int)) = true:=beq_iff_eq.mpr c3;have c3b1 : ((l0.length : Int) != (l1.length : Int)) = false:=bne_eq_false_iff_eq.mpr c3
  have c3b2 : (l0.length == l1.length) = true:=by (simp at c3 ⊢;omega)
  clear c3;have H':=am_ H;clear H
  go_enter Try.func17,Try.ntmps17
  go_wp2
  repeat (go_quiet (fail);try go_wp2)
  (skip)
  go_loopg [5] k (fun kq v5 w' => ∃ (x5_1 : Int),v5 = .int .i64 x5_1 ∧ Aside0 (laws_rInts.l0 kq l0 l1 x5_1 = some r) ∧ Aside0 (kq ≤ k) ∧ Drawn0 w w')
  case atStart => exact ⟨(0),(by rfl),H',⟨Nat.le_refl _⟩,by repeat (exact Drawn0.refl _)⟩
  case round =>
   clear H';(try clear c1);(try clear p2);(try clear c3);(try clear c3b0);(try clear c3b1);(try clear c3b2);obtain ⟨x5_1,rfl,HA,HK1,⟨m1,rfl⟩⟩ := hrel
   cases gk with
   | zero => exact absurd HA.out (by simp [laws_rInts.l0])
   | succ k1 =>
    have H:=HA.out;clear HA;simp only [laws_rInts.l0] at H
    by_cases c4 : x5_1 < (l0.length : Int)
    ·rw [if_pos c4] at H;have c4b0 : decide (x5_1 < (l0.length : Int)) = true:=decide_eq_true c4;clear c4
     by_cases c5 : 0 ≤ x5_1
     ·rw [if_pos c5] at H;have c5b0 : decide (0 ≤ x5_1) = true:=decide_eq_true c5;clear c5
      by_cases c6 : x5_1 < (l1.length : Int)
      ·rw [if_pos c6] at H;have c6b0 : decide (x5_1 < (l1.length : Int)) = true:=decide_eq_true c6;clear c6
       by_cases c7 : (rd l0 x5_1) = (rd l1 x5_1)
       ·rw [if_pos c7] at H;have c7b0 : ((rd l0 x5_1) == (rd l1 x5_1)) = true:=beq_iff_eq.mpr c7;have c7b1 : ((rd l0 x5_1) != (rd l1 x5_1)) = false:=bne_eq_false_iff_eq.mpr c7;clear c7;have H':=am_ H;clear H;have p483 : 0 ≤ (x5_1 : Int):=of_decide_eq_true (by (with_reducible assumption));have q483 : x5_1 < (l0.length : Int):=of_decide_eq_true (by (with_reducible assumption));obtain ⟨ad483,e483,hx483_0⟩ := Kd.at_int HR0.out x5_1 p483 q483;cases e483;replace p483:=eq_true p483;replace q483:=eq_true q483;have p484 : 0 ≤ (x5_1 : Int):=of_decide_eq_true (by (with_reducible assumption));have q484 : x5_1 < (l1.length : Int):=of_decide_eq_true (by (with_reducible assumption));obtain ⟨ad484,e484,hx484_0⟩ := Kd.at_int HR1.out x5_1 p484 q484;cases e484;replace p484:=eq_true p484;replace q484:=eq_true q484
        go_wp2
        repeat (go_quiet (fail);try go_wp2)
        go_roundg k1
        case measure => have:=HK1.out;omega
        case rel => exact ⟨(wrap64 (x5_1 + 1)),(by rfl),H',⟨by have:=HK1.out;omega⟩,by repeat (first | exact Drawn0.refl _ | apply Drawn0.step)⟩
       ·rw [if_neg c7] at H;have c7b0 : ((rd l0 x5_1) == (rd l1 x5_1)) = false:=beq_eq_false_iff_ne.mpr c7;have c7b1 : ((rd l0 x5_1) != (rd l1 x5_1)) = true:=bne_iff_ne.mpr c7;obtain rfl:=Option.some.inj H;have p483 : 0 ≤ (x5_1 : Int):=of_decide_eq_true (by (with_reducible assumption));have q483 : x5_1 < (l0.length : Int):=of_decide_eq_true (by (with_reducible assumption));obtain ⟨ad483,e483,hx483_0⟩ := Kd.at_int HR0.out x5_1 p483 q483;cases e483;replace p483:=eq_true p483;replace q483:=eq_true q483;have p484 : 0 ≤ (x5_1 : Int):=of_decide_eq_true (by (with_reducible assumption));have q484 : x5_1 < (l1.length : Int):=of_decide_eq_true (by (with_reducible assumption));obtain ⟨ad484,e484,hx484_0⟩ := Kd.at_int HR1.out x5_1 p484 q484;cases e484;replace p484:=eq_true p484;replace q484:=eq_true q484
        go_wp2
        repeat (go_quiet (fail);try go_wp2)
        go_ret
        exact ⟨by rfl,by repeat (first | exact Drawn0.refl _ | apply Drawn0.step)⟩
      ·rw [if_neg c6] at H
       exact absurd H (by simp)
     ·rw [if_neg c5] at H
      exact absurd H (by simp)
    ·rw [if_neg c4] at H;have c4b0 : decide (x5_1 < (l0.length : Int)) = false:=decide_eq_false c4;clear c4;obtain rfl:=Option.some.inj H
     go_wp2
     repeat (go_quiet (fail);try go_wp2)
     go_ret
     exact ⟨by rfl,by repeat (first | exact Drawn0.refl _ | apply Drawn0.step)⟩
 ·rw [if_neg c3] at H;have c3b0 : ((l0.length : Int) == (l1.length : Int)) = false:=beq_eq_false_iff_ne.mpr c3;have c3b1 : ((l0.length : Int) != (l1.length : Int)) = true:=bne_iff_ne.mpr c3
  have c3b2 : (l0.length == l1.length) = false:=by (simp at c3 ⊢;omega)
  obtain rfl:=Option.some.inj H
  go_enter Try.func17,Try.ntmps17
  go_wp2
  repeat (go_quiet (fail);try go_wp2)
  go_ret
  exact ⟨by rfl,by repeat (exact Drawn0.refl _)⟩

/-! ### impl_IsValidLoading_1: function 49 -/
def impl_IsValidLoading_1.f (a0 : Int) (l1 : List (S54)) : Option (Bool):=(impl_within.f a0 (-1) (wrap64 ((l1.length : Int) - 1))).bind fun t485 => (some (!t485))
set_option maxHeartbeats 8000000 in
set_option maxRecDepth 100000 in
theorem impl_IsValidLoading_1.calls (a0 : Int) (A1 : Option Addr) (c1 : Nat) (l1 : List (S54)) {G1 : Nat} (r : Bool) (w : World) (hr1 : Kd.C k54 w A1 l1.length l1) (hc1 : l1.length ≤ c1) (hg1 : w.cell? ⟨G1,0,none⟩ = some (.slice A1 l1.length c1)) (h : impl_IsValidLoading_1.f a0 l1 = some r) :
  Calls Try.prog 49 #[.int .i64 a0, .pointer (some ⟨G1,0,none⟩)] w fun e w' => e = .returned (.bool r) ∧ Below w.heap.size w w':=by
 have HR1:=am_ hr1;have HC1:=am_ hc1;clear hr1 hc1;have HB:=am_ (Below.refl w.heap.size w);have H : ((impl_within.f a0 (-1) (wrap64 ((l1.length : Int) - 1))).bind fun t485 => (some (!t485))) = some r:=h;clear h;replace H:=Option.bind_eq_some_iff.mp H;obtain ⟨t485,A30,H⟩ := H;replace H : (some (!t485)) = some r:=H;have A3:=am_ A30;clear A30;obtain rfl:=Option.some.inj H
 go_enter Try.func49,Try.ntmps49
 go_wp2_with (((with_reducible refine gate_callee (f:=50) rfl ?_);refine goesL_ (some 8) rfl rfl Try.func50 (by kernel_rfl) rfl #[.int .i64 a0, .int .i64 (-1), .int .i64 (wrap64 ((l1.length : Int) - 1))] rfl (by (try simp only [List.map_toArray,List.map_cons,List.map_nil]);rfl) ?_;(with_reducible refine (impl_within.calls a0 (-1) (wrap64 ((l1.length : Int) - 1)) t485 _ A3.out).mono ?_);rintro e w' ⟨rfl,⟨nd,rfl⟩⟩;refine ⟨_,rfl, ?_⟩))
 go_ret
 exact ⟨by rfl,by repeat ((with_reducible first | exact HB.out | apply pw_below_drewN))⟩

/-! ### slices_IndexFunc_int: function 77 -/
def slices_IndexFunc_int.l0 : Nat → List Int → Int → Int → List (S54) → Option (Int)
 | 0,_,_,_,_ => none
 | k + 1,x0,x7,x8,x902000 => if x8 < x7 then (if 0 ≤ x8 then (if x8 < (x0.length : Int) then ((impl_IsValidLoading_1.f (rd x0 x8) x902000).bind fun t487 => (if t487 = true then (some x8) else (slices_IndexFunc_int.l0 k x0 x7 (wrap64 (x8 + 1)) x902000))) else (none)) else (none)) else (some (-1))
def slices_IndexFunc_int.f (k : Nat) (l0 : List Int) (l1_0 : List (S54)) : Option (Int):=slices_IndexFunc_int.l0 k l0 (l0.length : Int) 0 l1_0
theorem slices_IndexFunc_int.mono_l : ∀ k,(∀ y0 y1 y2 y3,LeO (slices_IndexFunc_int.l0 k y0 y1 y2 y3) (slices_IndexFunc_int.l0 (k + 1) y0 y1 y2 y3))
 | 0 => fun _ _ _ _ r h => by simp [slices_IndexFunc_int.l0] at h
 | k + 1 => by
  have ih0:=slices_IndexFunc_int.mono_l k
  ·intro y0 y1 y2 y3
   unfold slices_IndexFunc_int.l0
   repeat' first
   | (with_reducible exact ih0 _ _ _ _)
   | (with_reducible exact LeO.refl _)
   | (with_reducible exact LeO.none _)
   | (with_reducible refine LeO.ite ?_ ?_)
   | (with_reducible refine LeO.bind ?_ (fun _ => ?_))
   | exact ih0 _ _ _ _
   | exact LeO.none _
   | refine LeO.ite ?_ ?_
   | refine LeO.bind ?_ (fun _ => ?_)
theorem slices_IndexFunc_int.mono : ∀ a0 a1 k,LeO (slices_IndexFunc_int.f k a0 a1) (slices_IndexFunc_int.f (k + 1) a0 a1):=by
 intro a0 a1 k;have ih0:=slices_IndexFunc_int.mono_l k
 unfold slices_IndexFunc_int.f
 repeat' first
   | (with_reducible exact ih0 _ _ _ _)
   | (with_reducible exact LeO.refl _)
   | (with_reducible exact LeO.none _)
   | (with_reducible refine LeO.ite ?_ ?_)
   | (with_reducible refine LeO.bind ?_ (fun _ => ?_))
   | exact ih0 _ _ _ _
   | exact LeO.none _
   | refine LeO.ite ?_ ?_
   | refine LeO.bind ?_ (fun _ => ?_)
set_option maxHeartbeats 8000000 in
set_option maxRecDepth 100000 in
theorem slices_IndexFunc_int.calls (k : Nat) (A0 : Option Addr) (c0 : Nat) (l0 : List Int) (A1_0 : Option Addr) (c1_0 : Nat) (l1_0 : List (S54)) {G1_0 : Nat} (r : Int) (w : World) (hr0 : Kd.C (Kd.int .i64) w A0 l0.length l0) (hc0 : l0.length ≤ c0) (hr1_0 : Kd.C k54 w A1_0 l1_0.length l1_0) (hc1_0 : l1_0.length ≤ c1_0) (hg1_0 : w.cell? ⟨G1_0,0,none⟩ = some (.slice A1_0 l1_0.length c1_0)) (h : slices_IndexFunc_int.f k l0 l1_0 = some r) :
  Calls Try.prog 77 #[.slice A0 l0.length c0,(.func (.func 49) #[] #[.pointer (some ⟨G1_0,0,none⟩)])] w fun e w' => e = .returned (.int .i64 r) ∧ Below w.heap.size w w':=by
 have HR0:=am_ hr0;have HC0:=am_ hc0;clear hr0 hc0;have HR1_0:=am_ hr1_0;have HC1_0:=am_ hc1_0;clear hr1_0 hc1_0;have HB:=am_ (Below.refl w.heap.size w);have H : (slices_IndexFunc_int.l0 k l0 (l0.length : Int) 0 l1_0) = some r:=h;clear h;have H':=am_ H;clear H
 go_enter Try.func77,Try.ntmps77
 go_wp2
 go_loopg [8] k (fun kq v8 w' => ∃ (x8_1 : Int),v8 = .int .i64 x8_1 ∧ Aside0 (slices_IndexFunc_int.l0 kq l0 (l0.length : Int) x8_1 l1_0 = some r) ∧ Aside0 (kq ≤ k) ∧ Aside0 (Below w.heap.size w w'))
 case atStart => exact ⟨(0),(by rfl),H',⟨Nat.le_refl _⟩,⟨by exact HB.out⟩⟩
 case round =>
  clear H';(try clear c1);(try clear p2);obtain ⟨x8_1,rfl,HA,HK1,HB⟩ := hrel
  cases gk with
  | zero => exact absurd HA.out (by simp [slices_IndexFunc_int.l0])
  | succ k1 =>
   have H:=HA.out;clear HA;simp only [slices_IndexFunc_int.l0] at H
   by_cases c3 : x8_1 < (l0.length : Int)
   ·rw [if_pos c3] at H;have c3b0 : decide (x8_1 < (l0.length : Int)) = true:=decide_eq_true c3;clear c3
    by_cases c4 : 0 ≤ x8_1
    ·rw [if_pos c4] at H;have c4b0 : decide (0 ≤ x8_1) = true:=decide_eq_true c4;clear c4
     by_cases c5 : x8_1 < (l0.length : Int)
     ·rw [if_pos c5] at H;have c5b0 : decide (x8_1 < (l0.length : Int)) = true:=decide_eq_true c5;clear c5;replace H:=Option.bind_eq_some_iff.mp H;obtain ⟨t487,A60,H⟩ := H;replace H : (if t487 = true then (some x8_1) else (slices_IndexFunc_int.l0 k1 l0 (l0.length : Int) (wrap64 (x8_1 + 1)) l1_0)) = some r:=H;have A6:=am_ A60;clear A60
      by_cases c7 : t487 = true
      ·subst c7
       have H1 : (some x8_1) = some r:=by rw [if_pos rfl] at H;exact H
       clear H;have H:=H1;clear H1;obtain rfl:=Option.some.inj H;have p486 : 0 ≤ (x8_1 : Int):=of_decide_eq_true (by (with_reducible assumption));have q486 : x8_1 < (l0.length : Int):=of_decide_eq_true (by (with_reducible assumption));obtain ⟨ad486,e486,hx486_0⟩ := Kd.at_int HR0.out x8_1 p486 q486;cases e486;replace hx486_0:=(HB.out.cell (World.block_lt_of_cell? w _ hx486_0)).trans hx486_0;replace p486:=eq_true p486;replace q486:=eq_true q486
       go_wp2_with (((with_reducible refine gateV_ (x := .tmp 11) rfl ?_);refine goesD_ (some 16) rfl rfl Try.func49 (by kernel_rfl) rfl #[.pointer (some ⟨G1_0,0,none⟩)] #[.int .i64 (rd l0 x8_1)] #[.int .i64 (rd l0 x8_1), .pointer (some ⟨G1_0,0,none⟩)] rfl rfl (by (try simp only [List.map_toArray,List.map_cons,List.map_nil]);rfl) rfl ?_;(with_reducible refine (impl_IsValidLoading_1.calls (hg1:=?sg0) (rd l0 x8_1) A1_0 c1_0 l1_0 true _ ?side1 ?side2 A6.out).mono ?_);(case sg0 => exact (by exact (Below.cell (by exact HB.out) (World.block_lt_of_cell? w _ hg1_0)).trans hg1_0));(case side1 => repeat (exact (Kd.C_below HR1_0.out HB.out)));(case side2 => exact HC1_0.out);rintro e w8 ⟨rfl,hb⟩;refine ⟨_,rfl, ?_⟩;have n0_:=am_ (below_step (by exact HB.out) hb);clear HB;have HB:=n0_;clear n0_;(try clear hb)))
       go_ret
       exact ⟨by rfl,by exact HB.out⟩
      ·replace c7:=Bool.eq_false_iff.mpr c7;subst c7
       have H1 : (slices_IndexFunc_int.l0 k1 l0 (l0.length : Int) (wrap64 (x8_1 + 1)) l1_0) = some r:=by rw [if_neg (show ¬ (false = true) by decide)] at H;exact H
       clear H;have H:=H1;clear H1;have H':=am_ H;clear H;have p486 : 0 ≤ (x8_1 : Int):=of_decide_eq_true (by (with_reducible assumption));have q486 : x8_1 < (l0.length : Int):=of_decide_eq_true (by (with_reducible assumption));obtain ⟨ad486,e486,hx486_0⟩ := Kd.at_int HR0.out x8_1 p486 q486;cases e486;replace hx486_0:=(HB.out.cell (World.block_lt_of_cell? w _ hx486_0)).trans hx486_0;replace p486:=eq_true p486;replace q486:=eq_true q486
       go_wp2_with (((with_reducible refine gateV_ (x := .tmp 11) rfl ?_);refine goesD_ (some 16) rfl rfl Try.func49 (by kernel_rfl) rfl #[.pointer (some ⟨G1_0,0,none⟩)] #[.int .i64 (rd l0 x8_1)] #[.int .i64 (rd l0 x8_1), .pointer (some ⟨G1_0,0,none⟩)] rfl rfl (by (try simp only [List.map_toArray,List.map_cons,List.map_nil]);rfl) rfl ?_;(with_reducible refine (impl_IsValidLoading_1.calls (hg1:=?sg0) (rd l0 x8_1) A1_0 c1_0 l1_0 false _ ?side1 ?side2 A6.out).mono ?_);(case sg0 => exact (by exact (Below.cell (by exact HB.out) (World.block_lt_of_cell? w _ hg1_0)).trans hg1_0));(case side1 => repeat (exact (Kd.C_below HR1_0.out HB.out)));(case side2 => exact HC1_0.out);rintro e w9 ⟨rfl,hb⟩;refine ⟨_,rfl, ?_⟩;have n0_:=am_ (below_step (by exact HB.out) hb);clear HB;have HB:=n0_;clear n0_;(try clear hb)))
       go_roundg k1
       case measure => have:=HK1.out;omega
       case rel => exact ⟨(wrap64 (x8_1 + 1)),(by rfl),H',⟨by have:=HK1.out;omega⟩,⟨by exact HB.out⟩⟩
     ·rw [if_neg c5] at H
      exact absurd H (by simp)
    ·rw [if_neg c4] at H
     exact absurd H (by simp)
   ·rw [if_neg c3] at H;have c3b0 : decide (x8_1 < (l0.length : Int)) = false:=decide_eq_false c3;clear c3;obtain rfl:=Option.some.inj H
    go_wp2
    go_ret
    exact ⟨by rfl,by exact HB.out⟩

/-! ### slices_ContainsFunc_int: function 48 -/
def slices_ContainsFunc_int.f (k : Nat) (l0 : List Int) (l1_0 : List (S54)) : Option (Bool):=(slices_IndexFunc_int.f k l0 l1_0).bind fun t488 => (some (decide (t488 ≥ 0)))
theorem slices_ContainsFunc_int.mono : ∀ a0 a1 k,LeO (slices_ContainsFunc_int.f k a0 a1) (slices_ContainsFunc_int.f (k + 1) a0 a1):=by
 intro a0 a1 k
 unfold slices_ContainsFunc_int.f
 repeat' first
   | (with_reducible exact slices_IndexFunc_int.mono _ _ _)
   | (with_reducible exact LeO.refl _)
   | (with_reducible exact LeO.none _)
   | (with_reducible refine LeO.ite ?_ ?_)
   | (with_reducible refine LeO.bind ?_ (fun _ => ?_))
   | exact slices_IndexFunc_int.mono _ _ _
   | exact LeO.none _
   | refine LeO.ite ?_ ?_
   | refine LeO.bind ?_ (fun _ => ?_)
set_option maxHeartbeats 8000000 in
set_option maxRecDepth 100000 in
theorem slices_ContainsFunc_int.calls (k : Nat) (A0 : Option Addr) (c0 : Nat) (l0 : List Int) (A1_0 : Option Addr) (c1_0 : Nat) (l1_0 : List (S54)) {G1_0 : Nat} (r : Bool) (w : World) (hr0 : Kd.C (Kd.int .i64) w A0 l0.length l0) (hc0 : l0.length ≤ c0) (hr1_0 : Kd.C k54 w A1_0 l1_0.length l1_0) (hc1_0 : l1_0.length ≤ c1_0) (hg1_0 : w.cell? ⟨G1_0,0,none⟩ = some (.slice A1_0 l1_0.length c1_0)) (h : slices_ContainsFunc_int.f k l0 l1_0 = some r) :
  Calls Try.prog 48 #[.slice A0 l0.length c0,(.func (.func 49) #[] #[.pointer (some ⟨G1_0,0,none⟩)])] w fun e w' => e = .returned (.bool r) ∧ Below w.heap.size w w':=by
 have HR0:=am_ hr0;have HC0:=am_ hc0;clear hr0 hc0;have HR1_0:=am_ hr1_0;have HC1_0:=am_ hc1_0;clear hr1_0 hc1_0;have HB:=am_ (Below.refl w.heap.size w);have H : ((slices_IndexFunc_int.f k l0 l1_0).bind fun t488 => (some (decide (t488 ≥ 0)))) = some r:=h;clear h;replace H:=Option.bind_eq_some_iff.mp H;obtain ⟨t488,A30,H⟩ := H;replace H : (some (decide (t488 ≥ 0))) = some r:=H;have A3:=am_ A30;clear A30;obtain rfl:=Option.some.inj H
 go_enter Try.func48,Try.ntmps48
 go_wp2_with (((with_reducible refine gate_callee (f:=77) rfl ?_);refine goesL_ (some 7) rfl rfl Try.func77 (by kernel_rfl) rfl #[.slice A0 l0.length c0,(.func (.func 49) #[] #[.pointer (some ⟨G1_0,0,none⟩)])] rfl (by (try simp only [List.map_toArray,List.map_cons,List.map_nil]);rfl) ?_;(with_reducible refine (slices_IndexFunc_int.calls (hg1_0:=?sg0) k _ _ l0 A1_0 c1_0 l1_0 t488 _ ?side1 ?side2 ?side3 ?side4 A3.out).mono ?_);(case sg0 => exact (by exact hg1_0));(case side1 => repeat (exact HR0.out));(case side2 => exact HC0.out);(case side3 => repeat (exact HR1_0.out));(case side4 => exact HC1_0.out);rintro e w4 ⟨rfl,hb⟩;refine ⟨_,rfl, ?_⟩;have n0_:=am_ (below_step (by exact HB.out) hb);clear HB;have HB:=n0_;clear n0_;(try clear hb)))
 go_ret
 exact ⟨by rfl,by exact HB.out⟩

/-! ### impl_IsValidLoading: function 19 -/
def impl_IsValidLoading.j0 : Nat → List (S64) → List Int → Bool → List (S54) → Option (Bool)
 | 0,_,_,_,_ => none
 | k + 1,x1,x2,x21,x490000 => if x21 = true then (some false) else ((slices_ContainsFunc_int.f k x2 x490000).bind fun t492 => (if t492 = true then (some false) else ((impl_isLoaded.f k x490000 x1 x2).bind fun t493 => (some t493))))
def impl_IsValidLoading.f (k : Nat) (l0 : List (S54)) (l1 : List (S64)) (l2 : List Int) : Option (Bool):=(impl_IsValidTrain.f k l0).bind fun t490 => (if t490 = true then ((impl_IsValidContainers.f k l1).bind fun t491 => (if t491 = true then (impl_IsValidLoading.j0 k l1 l2 ((l2.length : Int) != (l1.length : Int)) l0) else (impl_IsValidLoading.j0 k l1 l2 true l0))) else (impl_IsValidLoading.j0 k l1 l2 true l0))
theorem impl_IsValidLoading.mono_l : ∀ k,(∀ y0 y1 y2 y3,LeO (impl_IsValidLoading.j0 k y0 y1 y2 y3) (impl_IsValidLoading.j0 (k + 1) y0 y1 y2 y3))
 | 0 => fun _ _ _ _ r h => by simp [impl_IsValidLoading.j0] at h
 | k + 1 => by
  have ih0:=impl_IsValidLoading.mono_l k
  ·intro y0 y1 y2 y3
   unfold impl_IsValidLoading.j0
   repeat' first
   | (with_reducible exact ih0 _ _ _ _)
   | (with_reducible exact impl_IsValidContainers.mono _ _)
   | (with_reducible exact impl_IsValidTrain.mono _ _)
   | (with_reducible exact impl_isLoaded.mono _ _ _ _)
   | (with_reducible exact slices_ContainsFunc_int.mono _ _ _)
   | (with_reducible exact LeO.refl _)
   | (with_reducible exact LeO.none _)
   | (with_reducible refine LeO.ite ?_ ?_)
   | (with_reducible refine LeO.bind ?_ (fun _ => ?_))
   | exact ih0 _ _ _ _
   | exact impl_IsValidContainers.mono _ _
   | exact impl_IsValidTrain.mono _ _
   | exact impl_isLoaded.mono _ _ _ _
   | exact slices_ContainsFunc_int.mono _ _ _
   | exact LeO.none _
   | refine LeO.ite ?_ ?_
   | refine LeO.bind ?_ (fun _ => ?_)
theorem impl_IsValidLoading.mono : ∀ a0 a1 a2 k,LeO (impl_IsValidLoading.f k a0 a1 a2) (impl_IsValidLoading.f (k + 1) a0 a1 a2):=by
 intro a0 a1 a2 k;have ih0:=impl_IsValidLoading.mono_l k
 unfold impl_IsValidLoading.f
 repeat' first
   | (with_reducible exact ih0 _ _ _ _)
   | (with_reducible exact impl_IsValidContainers.mono _ _)
   | (with_reducible exact impl_IsValidTrain.mono _ _)
   | (with_reducible exact impl_isLoaded.mono _ _ _ _)
   | (with_reducible exact slices_ContainsFunc_int.mono _ _ _)
   | (with_reducible exact LeO.refl _)
   | (with_reducible exact LeO.none _)
   | (with_reducible refine LeO.ite ?_ ?_)
   | (with_reducible refine LeO.bind ?_ (fun _ => ?_))
   | exact ih0 _ _ _ _
   | exact impl_IsValidContainers.mono _ _
   | exact impl_IsValidTrain.mono _ _
   | exact impl_isLoaded.mono _ _ _ _
   | exact slices_ContainsFunc_int.mono _ _ _
   | exact LeO.none _
   | refine LeO.ite ?_ ?_
   | refine LeO.bind ?_ (fun _ => ?_)
set_option maxHeartbeats 8000000 in
set_option maxRecDepth 100000 in
theorem impl_IsValidLoading.calls (k : Nat) (A0 : Option Addr) (c0 : Nat) (l0 : List (S54)) (A1 : Option Addr) (c1 : Nat) (l1 : List (S64)) (A2 : Option Addr) (c2 : Nat) (l2 : List Int) (r : Bool) (w : World) (hr0 : Kd.C k54 w A0 l0.length l0) (hc0 : l0.length ≤ c0) (hr1 : Kd.C k64 w A1 l1.length l1) (hc1 : l1.length ≤ c1) (hr2 : Kd.C (Kd.int .i64) w A2 l2.length l2) (hc2 : l2.length ≤ c2) (h : impl_IsValidLoading.f k l0 l1 l2 = some r) :
  Calls Try.prog 19 #[.slice A0 l0.length c0, .slice A1 l1.length c1, .slice A2 l2.length c2] w fun e w' => e = .returned (.bool r) ∧ Below w.heap.size w w':=by
 have HR0:=am_ hr0;have HC0:=am_ hc0;clear hr0 hc0;have HR1:=am_ hr1;have HC1:=am_ hc1;clear hr1 hc1;have HR2:=am_ hr2;have HC2:=am_ hc2;clear hr2 hc2;have HB:=am_ (Below.refl w.heap.size w);have H : ((impl_IsValidTrain.f k l0).bind fun t490 => (if t490 = true then ((impl_IsValidContainers.f k l1).bind fun t491 => (if t491 = true then (impl_IsValidLoading.j0 k l1 l2 ((l2.length : Int) != (l1.length : Int)) l0) else (impl_IsValidLoading.j0 k l1 l2 true l0))) else (impl_IsValidLoading.j0 k l1 l2 true l0))) = some r:=h;clear h;have HC4:=am_ H;clear H
 go_enter Try.func19,Try.ntmps19
 go_upto_region 1 with (((with_reducible refine gate_dst (N:=3) rfl ?_);(try (refine gate_guard (by rfl) ?_;dsimp only));refine box_event ?hg (N:=3) ?hd (cs:=#[.slice A0 l0.length c0]) (t:=28) ?hr ?_;(case hd => rfl);(case hg => rfl);(case hr => (go_simp;done));intro gb489 hg w5 hbox hb;have n0_:=am_ (below_step (by exact HB.out) hb);have n1_:=am_ hbox;have n2_:=am_ (ge_ hg (by exact HB.out));have n3_:=am_ (ge_ hg (by exact HB.out));clear HB;have HB:=n0_;have BK489:=n1_;have GW489:=n2_;have GE489:=n3_;clear n0_ n1_ n2_ n3_;clear hb hbox hg))
 (skip)
 go_cut [21] (fun v21 wc => ∃ (kq : Nat) (x21_3 : Bool),v21 = .bool x21_3 ∧ Aside0 (impl_IsValidLoading.j0 kq l1 l2 x21_3 l0 = some r) ∧ Aside0 (kq ≤ k) ∧ Aside0 (wc.heap[gb489]? = some (.cells #[(.slice A0 l0.length c0)] 28 (0,0))) ∧ Aside0 (Below w.heap.size w wc))
 case first =>
  have H:=HC4.out;clear HC4;replace H:=Option.bind_eq_some_iff.mp H;obtain ⟨t490,A60,H⟩ := H;replace H : (if t490 = true then ((impl_IsValidContainers.f k l1).bind fun t491 => (if t491 = true then (impl_IsValidLoading.j0 k l1 l2 ((l2.length : Int) != (l1.length : Int)) l0) else (impl_IsValidLoading.j0 k l1 l2 true l0))) else (impl_IsValidLoading.j0 k l1 l2 true l0)) = some r:=H;have A6:=am_ A60;clear A60
  by_cases c7 : t490 = true
  ·subst c7
   have H1 : ((impl_IsValidContainers.f k l1).bind fun t491 => (if t491 = true then (impl_IsValidLoading.j0 k l1 l2 ((l2.length : Int) != (l1.length : Int)) l0) else (impl_IsValidLoading.j0 k l1 l2 true l0))) = some r:=by rw [if_pos rfl] at H;exact H
   clear H;have H:=H1;clear H1;replace H:=Option.bind_eq_some_iff.mp H;obtain ⟨t491,A80,H⟩ := H;replace H : (if t491 = true then (impl_IsValidLoading.j0 k l1 l2 ((l2.length : Int) != (l1.length : Int)) l0) else (impl_IsValidLoading.j0 k l1 l2 true l0)) = some r:=H;have A8:=am_ A80;clear A80
   by_cases c9 : t491 = true
   ·subst c9
    have H1 : (impl_IsValidLoading.j0 k l1 l2 ((l2.length : Int) != (l1.length : Int)) l0) = some r:=by rw [if_pos rfl] at H;exact H
    clear H;have H:=H1;clear H1;have H':=am_ H;clear H;have hcz10_0:=c1_0 BK489.out;have hfz10_0:=blk_frozen BK489.out 0
    go_wp2_with (first | ((with_reducible refine gate_callee (f:=20) rfl ?_);refine goesL_ (some 8) rfl rfl Try.func20 (by kernel_rfl) rfl #[.slice A0 l0.length c0] rfl (by (try simp only [List.map_toArray,List.map_cons,List.map_nil]);rfl) ?_;(with_reducible refine (impl_IsValidTrain.calls k _ _ l0 true _ ?side1 ?side2 A6.out).mono ?_);(case side1 => repeat (exact (Kd.C_below HR0.out HB.out)));(case side2 => exact HC0.out);rintro e w11 ⟨rfl,hb⟩;refine ⟨_,rfl, ?_⟩;have n0_:=am_ (blk_below (by exact BK489.out) hb);have n1_:=am_ (below_step (by exact HB.out) hb);clear BK489;clear HB;have BK489:=n0_;have HB:=n1_;clear n0_ n1_;(try clear hb)) | (go_at_call 36;(with_reducible refine (impl_IsValidContainers.calls k _ _ l1 true _ ?side1 ?side2 A8.out).mono ?_);(case side1 => repeat (exact (Kd.C_below HR1.out HB.out)));(case side2 => exact HC1.out);rintro e w12 ⟨rfl,hb⟩;have n0_:=am_ (blk_below (by exact BK489.out) hb);have n1_:=am_ (below_step (by exact HB.out) hb);clear BK489;clear HB;have BK489:=n0_;have HB:=n1_;clear n0_ n1_;(try clear hb)))
    go_meet
    case rel => exact ⟨_,(((l2.length : Int) != (l1.length : Int))),(by rfl),H',⟨by omega⟩,⟨by exact BK489.out⟩,⟨by exact HB.out⟩⟩
   ·replace c9:=Bool.eq_false_iff.mpr c9;subst c9
    have H1 : (impl_IsValidLoading.j0 k l1 l2 true l0) = some r:=by rw [if_neg (show ¬ (false = true) by decide)] at H;exact H
    clear H;have H:=H1;clear H1;have H':=am_ H;clear H;have hcz13_0:=c1_0 BK489.out;have hfz13_0:=blk_frozen BK489.out 0
    go_wp2_with (first | ((with_reducible refine gate_callee (f:=20) rfl ?_);refine goesL_ (some 8) rfl rfl Try.func20 (by kernel_rfl) rfl #[.slice A0 l0.length c0] rfl (by (try simp only [List.map_toArray,List.map_cons,List.map_nil]);rfl) ?_;(with_reducible refine (impl_IsValidTrain.calls k _ _ l0 true _ ?side1 ?side2 A6.out).mono ?_);(case side1 => repeat (exact (Kd.C_below HR0.out HB.out)));(case side2 => exact HC0.out);rintro e w14 ⟨rfl,hb⟩;refine ⟨_,rfl, ?_⟩;have n0_:=am_ (blk_below (by exact BK489.out) hb);have n1_:=am_ (below_step (by exact HB.out) hb);clear BK489;clear HB;have BK489:=n0_;have HB:=n1_;clear n0_ n1_;(try clear hb)) | (go_at_call 36;(with_reducible refine (impl_IsValidContainers.calls k _ _ l1 false _ ?side1 ?side2 A8.out).mono ?_);(case side1 => repeat (exact (Kd.C_below HR1.out HB.out)));(case side2 => exact HC1.out);rintro e w15 ⟨rfl,hb⟩;have n0_:=am_ (blk_below (by exact BK489.out) hb);have n1_:=am_ (below_step (by exact HB.out) hb);clear BK489;clear HB;have BK489:=n0_;have HB:=n1_;clear n0_ n1_;(try clear hb)))
    go_meet
    case rel => exact ⟨_,(true),(by rfl),H',⟨by omega⟩,⟨by exact BK489.out⟩,⟨by exact HB.out⟩⟩
  ·replace c7:=Bool.eq_false_iff.mpr c7;subst c7
   have H1 : (impl_IsValidLoading.j0 k l1 l2 true l0) = some r:=by rw [if_neg (show ¬ (false = true) by decide)] at H;exact H
   clear H;have H:=H1;clear H1;have H':=am_ H;clear H;have hcz16_0:=c1_0 BK489.out;have hfz16_0:=blk_frozen BK489.out 0
   go_wp2_with (((with_reducible refine gate_callee (f:=20) rfl ?_);refine goesL_ (some 8) rfl rfl Try.func20 (by kernel_rfl) rfl #[.slice A0 l0.length c0] rfl (by (try simp only [List.map_toArray,List.map_cons,List.map_nil]);rfl) ?_;(with_reducible refine (impl_IsValidTrain.calls k _ _ l0 false _ ?side1 ?side2 A6.out).mono ?_);(case side1 => repeat (exact (Kd.C_below HR0.out HB.out)));(case side2 => exact HC0.out);rintro e w17 ⟨rfl,hb⟩;refine ⟨_,rfl, ?_⟩;have n0_:=am_ (blk_below (by exact BK489.out) hb);have n1_:=am_ (below_step (by exact HB.out) hb);clear BK489;clear HB;have BK489:=n0_;have HB:=n1_;clear n0_ n1_;(try clear hb)))
   go_meet
   case rel => exact ⟨_,(true),(by rfl),H',⟨by omega⟩,⟨by exact BK489.out⟩,⟨by exact HB.out⟩⟩
 case rest =>
  clear HC4;(try clear c1);(try clear c2);(try clear p2);(try clear c7);(try clear c9);(try clear hcz10_0);(try clear hcz13_0);(try clear hcz16_0);(try clear hfz10_0);(try clear hfz13_0);(try clear hfz16_0);obtain ⟨kq,x21_3,rfl,HA,HJ3,BK489,HB⟩ := hcut
  cases kq with
  | zero => exact absurd HA.out (by simp [impl_IsValidLoading.j0])
  | succ kj3 =>
   have H:=HA.out;clear HA;simp only [impl_IsValidLoading.j0] at H
   by_cases c18 : x21_3 = true
   ·subst c18
    have H1 : (some false) = some r:=by rw [if_pos rfl] at H;exact H
    clear H;have H:=H1;clear H1;obtain rfl:=Option.some.inj H
    go_wp2
    go_ret
    exact ⟨by rfl,by exact HB.out⟩
   ·replace c18:=Bool.eq_false_iff.mpr c18;subst c18
    have H1 : ((slices_ContainsFunc_int.f kj3 l2 l0).bind fun t492 => (if t492 = true then (some false) else ((impl_isLoaded.f kj3 l0 l1 l2).bind fun t493 => (some t493)))) = some r:=by rw [if_neg (show ¬ (false = true) by decide)] at H;exact H
    clear H;have H:=H1;clear H1;replace H:=Option.bind_eq_some_iff.mp H;obtain ⟨t492,A190,H⟩ := H;replace H : (if t492 = true then (some false) else ((impl_isLoaded.f kj3 l0 l1 l2).bind fun t493 => (some t493))) = some r:=H;have A19:=am_ A190;clear A190
    by_cases c20 : t492 = true
    ·subst c20
     have H1 : (some false) = some r:=by rw [if_pos rfl] at H;exact H
     clear H;have H:=H1;clear H1;obtain rfl:=Option.some.inj H
     go_wp2_with (((with_reducible refine gate_callee (f:=48) rfl ?_);refine goesL_ (some 24) rfl rfl Try.func48 (by kernel_rfl) rfl #[.slice A2 l2.length c2,(.func (.func 49) #[] #[.pointer (some ⟨gb489,0,none⟩)])] rfl (by (try simp only [List.map_toArray,List.map_cons,List.map_nil]);rfl) ?_;(with_reducible refine (slices_ContainsFunc_int.calls (hg1_0:=?sg0) kj3 _ _ l2 A0 c0 l0 true _ ?side1 ?side2 ?side3 ?side4 A19.out).mono ?_);(case sg0 => exact (blk_cell (by exact BK489.out) 0).trans rfl);(case side1 => repeat (exact (Kd.C_below HR2.out HB.out)));(case side2 => exact HC2.out);(case side3 => repeat (exact (Kd.C_below HR0.out HB.out)));(case side4 => exact HC0.out);rintro e w21 ⟨rfl,hb⟩;refine ⟨_,rfl, ?_⟩;have n0_:=am_ (blk_below (by exact BK489.out) hb);have n1_:=am_ (below_step (by exact HB.out) hb);clear BK489;clear HB;have BK489:=n0_;have HB:=n1_;clear n0_ n1_;(try clear hb)))
     go_ret
     exact ⟨by rfl,by exact HB.out⟩
    ·replace c20:=Bool.eq_false_iff.mpr c20;subst c20
     have H1 : ((impl_isLoaded.f kj3 l0 l1 l2).bind fun t493 => (some t493)) = some r:=by rw [if_neg (show ¬ (false = true) by decide)] at H;exact H
     clear H;have H:=H1;clear H1;replace H:=Option.bind_eq_some_iff.mp H;obtain ⟨t493,A220,H⟩ := H;replace H : (some t493) = some r:=H;have A22:=am_ A220;clear A220;obtain rfl:=Option.some.inj H
     go_wp2_with (first | ((with_reducible refine gate_callee (f:=48) rfl ?_);refine goesL_ (some 24) rfl rfl Try.func48 (by kernel_rfl) rfl #[.slice A2 l2.length c2,(.func (.func 49) #[] #[.pointer (some ⟨gb489,0,none⟩)])] rfl (by (try simp only [List.map_toArray,List.map_cons,List.map_nil]);rfl) ?_;(with_reducible refine (slices_ContainsFunc_int.calls (hg1_0:=?sg0) kj3 _ _ l2 A0 c0 l0 false _ ?side1 ?side2 ?side3 ?side4 A19.out).mono ?_);(case sg0 => exact (blk_cell (by exact BK489.out) 0).trans rfl);(case side1 => repeat (exact (Kd.C_below HR2.out HB.out)));(case side2 => exact HC2.out);(case side3 => repeat (exact (Kd.C_below HR0.out HB.out)));(case side4 => exact HC0.out);rintro e w23 ⟨rfl,hb⟩;refine ⟨_,rfl, ?_⟩;have n0_:=am_ (blk_below (by exact BK489.out) hb);have n1_:=am_ (below_step (by exact HB.out) hb);clear BK489;clear HB;have BK489:=n0_;have HB:=n1_;clear n0_ n1_;(try clear hb);have hcz24_0:=c1_0 BK489.out;have hfz24_0:=blk_frozen BK489.out 0) | ((with_reducible refine gate_callee (f:=39) rfl ?_);refine goesL_ (some 28) rfl rfl Try.func39 (by kernel_rfl) rfl #[.slice A0 l0.length c0, .slice A1 l1.length c1, .slice A2 l2.length c2] rfl (by (try simp only [List.map_toArray,List.map_cons,List.map_nil]);rfl) ?_;(with_reducible refine (impl_isLoaded.calls kj3 _ _ l0 _ _ l1 _ _ l2 t493 _ ?side1 ?side2 ?side3 ?side4 ?side5 ?side6 A22.out).mono ?_);(case side1 => repeat (exact (Kd.C_below HR0.out HB.out)));(case side2 => exact HC0.out);(case side3 => repeat (exact (Kd.C_below HR1.out HB.out)));(case side4 => exact HC1.out);(case side5 => repeat (exact (Kd.C_below HR2.out HB.out)));(case side6 => exact HC2.out);rintro e w25 ⟨rfl,hb⟩;refine ⟨_,rfl, ?_⟩;have n0_:=am_ (blk_below (by exact BK489.out) hb);have n1_:=am_ (below_step (by exact HB.out) hb);clear BK489;clear HB;have BK489:=n0_;have HB:=n1_;clear n0_ n1_;(try clear hb)))
     go_ret
     exact ⟨by rfl,by exact HB.out⟩

end Go.Proofs.Ythbibjfnmljpkaa.PFnTrainLoading
