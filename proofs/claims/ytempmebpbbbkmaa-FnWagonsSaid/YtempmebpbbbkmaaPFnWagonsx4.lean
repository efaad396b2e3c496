-- Written by a program of this session, over the kit's print (wip/xprint.py)
import Derived.Test.YtempmebpbbbkmaaPFnWagonsx0
import Derived.Test.YtempmebpbbbkmaaPFnWagonsx1
import Derived.Test.YtempmebpbbbkmaaPFnWagonsx2
import Derived.Test.YtempmebpbbbkmaaPFnWagonsx3
namespace Go.Proofs.Ytempmebpbbbkmaa.PFnWagons
open Go.RowKit Go.Proofs.YtempmebpbbbkmaaW.PrintWords Go.Proofs.YtempmebpbbbkmaaW.PrintLast Go.Proofs.YtempmebpbbbkmaaW.PrintMore
attribute [local go_sem] max2_int min2_int max_two min_two max_three min_three max_four min_four   -- for this text's walks alone
set_option linter.unusedVariables false
set_option linter.unusedSimpArgs false

/-! ### spec_l19Order: function 38 -/
theorem IsS46.grownB {w0 W W0 : World} {g : Nat} {f0 : List Int} {f1 f2 : Int} {W1 : World} {row : Option Nat} (h0 : IsS46 w0 W0 g f0 f1 f2) (h : IsS46 w0 W g f0 f1 f2) (hw : W.grownBy W1 row) (hne : some g ≠ row) : IsS46 w0 W1 g f0 f1 f2:=IsS46.grown h hw hne
mutual
def spec_l19Order.l0 : Nat → List (S60) → List (S33) → List Int → Int → Option (List Int)
 | 0,_,_,_,_ => none
 | k + 1,x0,x1,x5,x6 => if x6 < (x1.length : Int) then (if x5.length < 17592186044416 then (spec_l19Order.l1 k x0 x1 (x5 ++ [(-1)]) x6 0) else (none)) else (some x5)
def spec_l19Order.l1 : Nat → List (S60) → List (S33) → List Int → Int → Int → Option (List Int)
 | 0,_,_,_,_,_ => none
 | k + 1,x0,x1,x5,x6,x7 => if x7 < (x0.length : Int) then ((spec_l1Own.f x5).bind fun t335 => (if 0 ≤ x6 then (if x6 < (t335.length : Int) then ((some (t335.set (x6 : Int).toNat x7 : List Int)).bind fun y338 => ((spec_l19Fits.f k x0 x1 y338).bind fun t339 => (if t339 = true then (spec_l19Order.l0 k x0 x1 y338 (wrap64 (x6 + 1))) else (spec_l19Order.l1 k x0 x1 x5 x6 (wrap64 (x7 + 1)))))) else (none)) else (none))) else (spec_l19Order.l0 k x0 x1 x5 (wrap64 (x6 + 1)))
end
def spec_l19Order.f (k : Nat) (l0 : List (S60)) (l1 : List (S33)) : Option (List Int):=spec_l19Order.l0 k l0 l1 (([] : List Int)) 0
theorem spec_l19Order.mono_l : ∀ k,(∀ y0 y1 y2 y3,LeO (spec_l19Order.l0 k y0 y1 y2 y3) (spec_l19Order.l0 (k + 1) y0 y1 y2 y3)) ∧ (∀ y0 y1 y2 y3 y4,LeO (spec_l19Order.l1 k y0 y1 y2 y3 y4) (spec_l19Order.l1 (k + 1) y0 y1 y2 y3 y4))
 | 0 => ⟨fun _ _ _ _ r h => by simp [spec_l19Order.l0] at h,fun _ _ _ _ _ r h => by simp [spec_l19Order.l1] at h⟩
 | k + 1 => by
  obtain ⟨ih0,ih1⟩ := spec_l19Order.mono_l k
  refine ⟨?_, ?_⟩
  ·intro y0 y1 y2 y3
   unfold spec_l19Order.l0
   repeat' first
   | (with_reducible exact ih0 _ _ _ _)
   | (with_reducible exact ih1 _ _ _ _ _)
   | (with_reducible exact spec_l19Fits.mono _ _ _ _)
   | (with_reducible exact LeO.refl _)
   | (with_reducible exact LeO.none _)
   | (with_reducible refine LeO.ite ?_ ?_)
   | (with_reducible refine LeO.bind ?_ (fun _ => ?_))
   | exact ih0 _ _ _ _
   | exact ih1 _ _ _ _ _
   | exact spec_l19Fits.mono _ _ _ _
   | exact LeO.none _
   | refine LeO.ite ?_ ?_
   | refine LeO.bind ?_ (fun _ => ?_)
  ·intro y0 y1 y2 y3 y4
   unfold spec_l19Order.l1
   repeat' first
   | (with_reducible exact ih0 _ _ _ _)
   | (with_reducible exact ih1 _ _ _ _ _)
   | (with_reducible exact spec_l19Fits.mono _ _ _ _)
   | (with_reducible exact LeO.refl _)
   | (with_reducible exact LeO.none _)
   | (with_reducible refine LeO.ite ?_ ?_)
   | (with_reducible refine LeO.bind ?_ (fun _ => ?_))
   | exact ih0 _ _ _ _
   | exact ih1 _ _ _ _ _
   | exact spec_l19Fits.mono _ _ _ _
   | exact LeO.none _
   | refine LeO.ite ?_ ?_
   | refine LeO.bind ?_ (fun _ => ?_)
theorem spec_l19Order.mono : ∀ a0 a1 k,LeO (spec_l19Order.f k a0 a1) (spec_l19Order.f (k + 1) a0 a1):=by
 intro a0 a1 k
 obtain ⟨ih0,ih1⟩ := spec_l19Order.mono_l k
 unfold spec_l19Order.f
 repeat' first
   | (with_reducible exact ih0 _ _ _ _)
   | (with_reducible exact ih1 _ _ _ _ _)
   | (with_reducible exact spec_l19Fits.mono _ _ _ _)
   | (with_reducible exact LeO.refl _)
   | (with_reducible exact LeO.none _)
   | (with_reducible refine LeO.ite ?_ ?_)
   | (with_reducible refine LeO.bind ?_ (fun _ => ?_))
   | exact ih0 _ _ _ _
   | exact ih1 _ _ _ _ _
   | exact spec_l19Fits.mono _ _ _ _
   | exact LeO.none _
   | refine LeO.ite ?_ ?_
   | refine LeO.bind ?_ (fun _ => ?_)
set_option maxHeartbeats 8000000 in
set_option maxRecDepth 100000 in
theorem spec_l19Order.calls (k : Nat) (A0 : Option Addr) (c0 : Nat) (l0 : List (S60)) (A1 : Option Addr) (c1 : Nat) (l1 : List (S33)) (r : List Int) (w : World) (hr0 : Kd.C k60 w A0 l0.length l0) (hc0 : l0.length ≤ c0) (hr1 : Kd.C k33 w A1 l1.length l1) (hc1 : l1.length ≤ c1) (h : spec_l19Order.f k l0 l1 = some r) :
  Calls Try.prog 38 #[.slice A0 l0.length c0, .slice A1 l1.length c1] w fun e w' => ∃ v0_ : Value,e = .returned (v0_) ∧ Kd.R (Kd.int .i64) 3 w' w.heap.size (fun _ => True) v0_ r ∧ Below w.heap.size w w':=by
 have HR0:=Aside0.mk hr0
 have HC0:=Aside0.mk hc0
 clear hr0 hc0
 have HR1:=Aside0.mk hr1
 have HC1:=Aside0.mk hc1
 clear hr1 hc1
 have HB:=Aside0.mk (Below.refl w.heap.size w)
 have H : (spec_l19Order.l0 k l0 l1 (([] : List Int)) 0) = some r:=h
 clear h
 obtain ⟨y329,hy329⟩ : ∃ y_ : List Int,y_ = (([] : List Int)):=⟨_,rfl⟩
 replace H : (spec_l19Order.l0 k l0 l1 y329 0) = some r:=by (rw [hy329];with_reducible exact H)
 have Ny329:=Aside0.mk hy329
 clear hy329
 have H':=Aside0.mk H
 clear H
 go_enter Try.func38,Try.ntmps38
 go_wp2_with (((with_reducible refine gate_dst (N:=9) rfl ?_);refine Kd.R_lit (Kd.int .i64) _ 3 ?hg (N:=9) ?hd (xs:=([] : List Int)) (inner := []) (ok:=fun _ => True) (okp:=fun _ => True) ?hr ?hp (fun _ hk => hk) trivial (Below.refl _ _) (Nat.le_refl _) (by simp) ?_;(case hd => rfl);(case hg => rfl);(case hr => (go_simp;done));(case hp => exact (Reps.none _ _));intro v330 w3 ho4 hb hg_ hnew_;clear hg_ hnew_;(rw [← Ny329.out] at ho4);have n0_:=Aside0.mk (Kd.R_lower ho4 (below_size (by exact HB.out)));have n1_:=Aside0.mk (below_step (by exact HB.out) hb);clear HB;have HO331:=n0_;have HB:=n1_;clear n0_ n1_;clear hb ho4))
 go_loopg [5,6] k (fun kq v5 v6 w' => ∃ (x5_1 : List Int) (x6_1 : Int),v6 = .int .i64 x6_1 ∧ Aside0 (spec_l19Order.l0 kq l0 l1 x5_1 x6_1 = some r) ∧ Aside0 (kq ≤ k) ∧ Aside0 (Kd.R (Kd.int .i64) 3 w' w.heap.size (fun _ => True) v5 x5_1) ∧ Aside0 (Below w.heap.size w w'))
 case atStart => exact ⟨(y329),(0),(by rfl),H',⟨Nat.le_refl _⟩,⟨by exact HO331.out⟩,⟨by exact HB.out⟩⟩
 case round =>
  clear H'
  try clear c1
  try clear p2
  try clear c3
  obtain ⟨x5_1,x6_1,rfl,HA,HK1,HO_5,HB⟩ := hrel
  cases gk with
  | zero => exact absurd HA.out (by simp [spec_l19Order.l0])
  | succ k1 =>
   have H:=HA.out
   clear HA
   simp only [spec_l19Order.l0] at H
   by_cases c5 : x6_1 < (l1.length : Int)
   ·rw [if_pos c5] at H
    have c5b0 : decide (x6_1 < (l1.length : Int)) = true:=decide_eq_true c5
    clear c5
    by_cases c6 : x5_1.length < 17592186044416
    ·rw [if_pos c6] at H
     have LMc6:=Aside0.mk c6
     clear c6
     obtain ⟨y332,hy332⟩ : ∃ y_ : List Int,y_ = (x5_1 ++ [(-1)]):=⟨_,rfl⟩
     replace H : (spec_l19Order.l1 k1 l0 l1 y332 x6_1 0) = some r:=by (rw [hy332];with_reducible exact H)
     have Ny332:=Aside0.mk hy332
     clear hy332
     have H':=Aside0.mk H
     clear H
     go_wp2_with (((with_reducible refine gate_builtin (b := .append) (xs:=#[.tmp 16, .tmp 17]) rfl ?_);at_builtin;refine Kd.R_append (Kd.int .i64) (w0:=w) w.heap.size rfl (.tmp 16) (.tmp 17) 26 3 (.int .i64 0) 8 rfl Try.underlying26 info3 rfl (by decide) (by omega) u5 x5_1 (-1) [.int .i64 (-1)] (fun _ => True) (fun _ => False) rfl rfl ?aP (fun _ hk => hk.elim) ?aF ?aO ?aB ?aS ?aL ?_;(case aP => exact rfl);(case aB => exact (by exact HB.out));(case aF => exact (fun _ _ => trivial));(case aO => exact (by exact HO_5.out));(case aS => exact (below_size (by exact HB.out)));(case aL => have:=LMc6.out;omega);intro v333 w7 ho hb hg hat;rw [← Ny332.out] at ho;have n0_:=Aside0.mk (hb);have n1_:=Aside0.mk (ho);clear HB;clear HO_5;have HB:=n0_;have HO334:=n1_;clear n0_ n1_;clear ho hb hg hat))
     (skip)
     go_loopg [5,7] k1 (fun kq v5 v7 w' => ∃ (x5_2 : List Int) (x7_2 : Int),v7 = .int .i64 x7_2 ∧ Aside0 (spec_l19Order.l1 kq l0 l1 x5_2 x6_1 x7_2 = some r) ∧ Aside0 (kq ≤ k1) ∧ Aside0 (Kd.R (Kd.int .i64) 3 w' w.heap.size (fun _ => True) v5 x5_2) ∧ Aside0 (Below w.heap.size w w'))
     case atStart => exact ⟨(y332),(0),(by rfl),H',⟨Nat.le_refl _⟩,⟨by exact HO334.out⟩,⟨by exact HB.out⟩⟩
     case round =>
      clear H'
      try clear c1
      try clear p2
      try clear c3
      try clear c5
      try clear c5b0
      try clear c6
      try clear p2
      obtain ⟨x5_2,x7_2,rfl,HA,HK2,HO_5,HB⟩ := hrel
      cases gk with
      | zero => exact absurd HA.out (by simp [spec_l19Order.l1])
      | succ k2 =>
       have H:=HA.out
       clear HA
       simp only [spec_l19Order.l1] at H
       by_cases c8 : x7_2 < (l0.length : Int)
       ·rw [if_pos c8] at H
        have c8b0 : decide (x7_2 < (l0.length : Int)) = true:=decide_eq_true c8
        clear c8
        replace H:=Option.bind_eq_some_iff.mp H
        obtain ⟨t335,A90,H⟩ := H
        replace H : (if 0 ≤ x6_1 then (if x6_1 < (t335.length : Int) then ((some (t335.set (x6_1 : Int).toNat x7_2 : List Int)).bind fun y338 => ((spec_l19Fits.f k2 l0 l1 y338).bind fun t339 => (if t339 = true then (spec_l19Order.l0 k2 l0 l1 y338 (wrap64 (x6_1 + 1))) else (spec_l19Order.l1 k2 l0 l1 x5_2 x6_1 (wrap64 (x7_2 + 1)))))) else (none)) else (none)) = some r:=H
        have A9:=Aside0.mk A90
        clear A90
        by_cases c10 : 0 ≤ x6_1
        ·rw [if_pos c10] at H
         have c10b0 : decide (0 ≤ x6_1) = true:=decide_eq_true c10
         clear c10
         by_cases c11 : x6_1 < (t335.length : Int)
         ·rw [if_pos c11] at H
          have c11b0 : decide (x6_1 < (t335.length : Int)) = true:=decide_eq_true c11
          clear c11
          obtain ⟨y338,hy338⟩ : ∃ y_ : List Int,y_ = (t335.set (x6_1 : Int).toNat x7_2):=⟨_,rfl⟩
          replace H : ((spec_l19Fits.f k2 l0 l1 y338).bind fun t339 => (if t339 = true then (spec_l19Order.l0 k2 l0 l1 y338 (wrap64 (x6_1 + 1))) else (spec_l19Order.l1 k2 l0 l1 x5_2 x6_1 (wrap64 (x7_2 + 1))))) = some r:=by (have H2_:=(Option.bind_some _ _).symm.trans H;rw [hy338];with_reducible exact H2_)
          have Ny338:=Aside0.mk hy338
          clear hy338
          replace H:=Option.bind_eq_some_iff.mp H
          obtain ⟨t339,A130,H⟩ := H
          replace H : (if t339 = true then (spec_l19Order.l0 k2 l0 l1 y338 (wrap64 (x6_1 + 1))) else (spec_l19Order.l1 k2 l0 l1 x5_2 x6_1 (wrap64 (x7_2 + 1)))) = some r:=H
          have A13:=Aside0.mk A130
          clear A130
          by_cases c14 : t339 = true
          ·subst c14
           have H1 : (spec_l19Order.l0 k2 l0 l1 y338 (wrap64 (x6_1 + 1))) = some r:=by rw [if_pos rfl] at H;exact H
           clear H
           have H:=H1
           clear H1
           have H':=Aside0.mk H
           clear H
           obtain ⟨Ao15,co15,eo15⟩ := Kd.R_slice HO_5.out
           subst eo15
           go_wp2_with (first | ((with_reducible refine gate_callee (f:=26) rfl ?_);refine goesL_ (some 26) rfl rfl Try.func26 (by kernel_rfl) rfl #[.slice Ao15 x5_2.length co15] rfl (by (try simp only [List.map_toArray,List.map_cons,List.map_nil]);rfl) ?_;(with_reducible refine (spec_l1Own.calls _ _ x5_2 t335 _ ?side1 ?side2 A9.out).mono ?_);(case side1 => repeat (exact (Kd.R_reads' HO_5.out).2.2));(case side2 => exact (Kd.R_reads' HO_5.out).2.1);rintro e w16 ⟨v336,rfl,ho0,hb⟩;refine ⟨_,rfl, ?_⟩;have n0_:=Aside0.mk (Kd.R_elder' (by exact HO_5.out) (Kd.R_base ho0) hb);have n1_:=Aside0.mk (Kd.R_lower (Kd.R_new' ho0 (Kd.R_lt (by exact HO_5.out))) (below_size (by exact HB.out)));have n2_:=Aside0.mk (below_step (by exact HB.out) hb);clear HO_5;clear HB;have HO_5:=n0_;have HO337:=n1_;have HB:=n2_;clear n0_ n1_ n2_;(try clear hb);(try clear ho0);have p12 : 0 ≤ (x6_1 : Int):=of_decide_eq_true (by (with_reducible assumption));have q12 : (x6_1 : Int) < ((t335.length : Int) : Int):=of_decide_eq_true (by (with_reducible assumption));obtain ⟨go12,co12,eo12,gb12,gl12,cl12,HG12⟩ := Kd.R_form HO337.out (by omega);(cases eo12);have GB12:=Aside0.mk gb12;have GG12:=Aside0.mk HG12;clear gb12 gl12 HG12;obtain ⟨hx12_0,hf12_0⟩ := Kd.R_celln 0 HO337.out (x6_1 : Int) p12 q12;replace p12:=eq_true p12;replace q12:=eq_true q12;have n_:=Aside0.mk (Kd.R_mono (ok':=(fun k_ => some k_ ≠ (.slice Ao15 x5_2.length co15 : Value).ownBlock)) HO337.out (fun k_ hk => hk.2));clear HO337;have HO337:=n_;clear n_;obtain ⟨hy17_,hz17_⟩ := Kd.R_celln 0 HO337.out (x6_1 : Int) (of_decide_eq_true (by (with_reducible assumption))) (of_decide_eq_true (by (with_reducible assumption)));have HP17:=Kd.R_putg HO337.out (x6_1 : Int) x7_2) | ((with_reducible refine gate_store (t:=3) (p:=30) rfl ?_);refine store_event (t:=3) (p:=30) (v:=?vo_w18) (w1:=(w16.setCell ⟨go12,(x6_1 : Int).toNat,none⟩ (.int .i64 x7_2))) ?hg ?ho ?hn ?hr ?_;(case ho => rfl);(case hg => rfl);(case hn => rfl);(case hr => (go_simp;done));intro w18 hw;have hg : w16.grownBy w18 (some go12):=(by rw [hw];exact HP17.2);have hp_ : Kd.R (Kd.int .i64) 3 w18 w.heap.size (fun k_ => some k_ ≠ (.slice Ao15 x5_2.length co15 : Value).ownBlock) (.slice (some ⟨go12,0,none⟩) t335.length co12) y338:=(by rw [hw,Ny338.out];exact HP17.1);clear HP17;have n0_:=Aside0.mk (Kd.R_after (v:=(.slice (some ⟨go12,0,none⟩) t335.length co12)) (v1:=(.slice (some ⟨go12,0,none⟩) t335.length co12)) (ok:=(fun _ => True)) (by exact HO_5.out) hg (.inl rfl));have n1_:=Aside0.mk (hp_);have n2_:=Aside0.mk ((by rw [hw];exact below_set (HB.out) GB12.out : Below w.heap.size w w18));clear HO_5;clear HO337;clear HB;have HO_5:=n0_;have HO337:=n1_;have HB:=n2_;clear n0_ n1_ n2_;clear hg hw hp_) | ((with_reducible refine gate_callee (f:=45) rfl ?_);refine goesL_ (some 34) rfl rfl Try.func45 (by kernel_rfl) rfl #[.slice A0 l0.length c0, .slice A1 l1.length c1, .slice (some ⟨go12,0,none⟩) y338.length co12] rfl (by (try simp only [List.map_toArray,List.map_cons,List.map_nil]);(rw [show y338.length = t335.length from (Kd.R_reads' HO337.out).1.symm] <;> rfl)) ?_;(with_reducible refine (spec_l19Fits.calls k2 _ _ l0 _ _ l1 _ _ y338 true _ ?side1 ?side2 ?side3 ?side4 ?side5 ?side6 A13.out).mono ?_);(case side1 => repeat (exact (Kd.C_below HR0.out HB.out)));(case side2 => exact HC0.out);(case side3 => repeat (exact (Kd.C_below HR1.out HB.out)));(case side4 => exact HC1.out);(case side5 => repeat (exact (Kd.R_reads' HO337.out).2.2));(case side6 => rw [show y338.length = t335.length from (Kd.R_reads' HO337.out).1.symm];exact (Kd.R_reads' HO337.out).2.1);rintro e w' ⟨rfl,⟨nd,rfl⟩⟩;refine ⟨_,rfl, ?_⟩))
           go_roundg k2
           case measure => have:=HK1.out;have:=HK2.out;omega
           case rel => exact ⟨(y338),(wrap64 (x6_1 + 1)),(by rfl),H',⟨by have:=HK1.out;have:=HK2.out;omega⟩,⟨by (with_reducible repeat (apply Kd.R_drewN));exact Kd.R_mono HO337.out (fun _ hk => trivial)⟩,⟨by repeat ((with_reducible first | exact HB.out | apply pw_below_drewN))⟩⟩
          ·replace c14:=Bool.eq_false_iff.mpr c14
           subst c14
           have H1 : (spec_l19Order.l1 k2 l0 l1 x5_2 x6_1 (wrap64 (x7_2 + 1))) = some r:=by rw [if_neg (show ¬ (false = true) by decide)] at H;exact H
           clear H
           have H:=H1
           clear H1
           have H':=Aside0.mk H
           clear H
           obtain ⟨Ao19,co19,eo19⟩ := Kd.R_slice HO_5.out
           subst eo19
           go_wp2_with (first | ((with_reducible refine gate_callee (f:=26) rfl ?_);refine goesL_ (some 26) rfl rfl Try.func26 (by kernel_rfl) rfl #[.slice Ao19 x5_2.length co19] rfl (by (try simp only [List.map_toArray,List.map_cons,List.map_nil]);rfl) ?_;(with_reducible refine (spec_l1Own.calls _ _ x5_2 t335 _ ?side1 ?side2 A9.out).mono ?_);(case side1 => repeat (exact (Kd.R_reads' HO_5.out).2.2));(case side2 => exact (Kd.R_reads' HO_5.out).2.1);rintro e w20 ⟨v336,rfl,ho0,hb⟩;refine ⟨_,rfl, ?_⟩;have n0_:=Aside0.mk (Kd.R_elder' (by exact HO_5.out) (Kd.R_base ho0) hb);have n1_:=Aside0.mk (Kd.R_lower (Kd.R_new' ho0 (Kd.R_lt (by exact HO_5.out))) (below_size (by exact HB.out)));have n2_:=Aside0.mk (below_step (by exact HB.out) hb);clear HO_5;clear HB;have HO_5:=n0_;have HO337:=n1_;have HB:=n2_;clear n0_ n1_ n2_;(try clear hb);(try clear ho0);have p12 : 0 ≤ (x6_1 : Int):=of_decide_eq_true (by (with_reducible assumption));have q12 : (x6_1 : Int) < ((t335.length : Int) : Int):=of_decide_eq_true (by (with_reducible assumption));obtain ⟨go12,co12,eo12,gb12,gl12,cl12,HG12⟩ := Kd.R_form HO337.out (by omega);(cases eo12);have GB12:=Aside0.mk gb12;have GG12:=Aside0.mk HG12;clear gb12 gl12 HG12;obtain ⟨hx12_0,hf12_0⟩ := Kd.R_celln 0 HO337.out (x6_1 : Int) p12 q12;replace p12:=eq_true p12;replace q12:=eq_true q12;have n_:=Aside0.mk (Kd.R_mono (ok':=(fun k_ => some k_ ≠ (.slice Ao19 x5_2.length co19 : Value).ownBlock)) HO337.out (fun k_ hk => hk.2));clear HO337;have HO337:=n_;clear n_;obtain ⟨hy21_,hz21_⟩ := Kd.R_celln 0 HO337.out (x6_1 : Int) (of_decide_eq_true (by (with_reducible assumption))) (of_decide_eq_true (by (with_reducible assumption)));have HP21:=Kd.R_putg HO337.out (x6_1 : Int) x7_2) | ((with_reducible refine gate_store (t:=3) (p:=30) rfl ?_);refine store_event (t:=3) (p:=30) (v:=?vo_w22) (w1:=(w20.setCell ⟨go12,(x6_1 : Int).toNat,none⟩ (.int .i64 x7_2))) ?hg ?ho ?hn ?hr ?_;(case ho => rfl);(case hg => rfl);(case hn => rfl);(case hr => (go_simp;done));intro w22 hw;have hg : w20.grownBy w22 (some go12):=(by rw [hw];exact HP21.2);have hp_ : Kd.R (Kd.int .i64) 3 w22 w.heap.size (fun k_ => some k_ ≠ (.slice Ao19 x5_2.length co19 : Value).ownBlock) (.slice (some ⟨go12,0,none⟩) t335.length co12) y338:=(by rw [hw,Ny338.out];exact HP21.1);clear HP21;have n0_:=Aside0.mk (Kd.R_after (v:=(.slice (some ⟨go12,0,none⟩) t335.length co12)) (v1:=(.slice (some ⟨go12,0,none⟩) t335.length co12)) (ok:=(fun _ => True)) (by exact HO_5.out) hg (.inl rfl));have n1_:=Aside0.mk (hp_);have n2_:=Aside0.mk ((by rw [hw];exact below_set (HB.out) GB12.out : Below w.heap.size w w22));clear HO_5;clear HO337;clear HB;have HO_5:=n0_;have HO337:=n1_;have HB:=n2_;clear n0_ n1_ n2_;clear hg hw hp_) | ((with_reducible refine gate_callee (f:=45) rfl ?_);refine goesL_ (some 34) rfl rfl Try.func45 (by kernel_rfl) rfl #[.slice A0 l0.length c0, .slice A1 l1.length c1, .slice (some ⟨go12,0,none⟩) y338.length co12] rfl (by (try simp only [List.map_toArray,List.map_cons,List.map_nil]);(rw [show y338.length = t335.length from (Kd.R_reads' HO337.out).1.symm] <;> rfl)) ?_;(with_reducible refine (spec_l19Fits.calls k2 _ _ l0 _ _ l1 _ _ y338 false _ ?side1 ?side2 ?side3 ?side4 ?side5 ?side6 A13.out).mono ?_);(case side1 => repeat (exact (Kd.C_below HR0.out HB.out)));(case side2 => exact HC0.out);(case side3 => repeat (exact (Kd.C_below HR1.out HB.out)));(case side4 => exact HC1.out);(case side5 => repeat (exact (Kd.R_reads' HO337.out).2.2));(case side6 => rw [show y338.length = t335.length from (Kd.R_reads' HO337.out).1.symm];exact (Kd.R_reads' HO337.out).2.1);rintro e w' ⟨rfl,⟨nd,rfl⟩⟩;refine ⟨_,rfl, ?_⟩))
           go_roundg k2
           case measure => have:=HK1.out;have:=HK2.out;omega
           case rel => exact ⟨(x5_2),(wrap64 (x7_2 + 1)),(by rfl),H',⟨by have:=HK1.out;have:=HK2.out;omega⟩,⟨by (with_reducible repeat (apply Kd.R_drewN));exact Kd.R_mono HO_5.out (fun _ hk => trivial)⟩,⟨by repeat ((with_reducible first | exact HB.out | apply pw_below_drewN))⟩⟩
         ·rw [if_neg c11] at H
          exact absurd H (by simp)
        ·rw [if_neg c10] at H
         exact absurd H (by simp)
       ·rw [if_neg c8] at H
        have c8b0 : decide (x7_2 < (l0.length : Int)) = false:=decide_eq_false c8
        clear c8
        have H':=Aside0.mk H
        clear H
        go_wp2
        go_roundg k2
        case measure => have:=HK1.out;have:=HK2.out;omega
        case rel => exact ⟨(x5_2),(wrap64 (x6_1 + 1)),(by rfl),H',⟨by have:=HK1.out;have:=HK2.out;omega⟩,⟨by exact HO_5.out⟩,⟨by exact HB.out⟩⟩
    ·rw [if_neg c6] at H
     exact absurd H (by simp)
   ·rw [if_neg c5] at H
    have c5b0 : decide (x6_1 < (l1.length : Int)) = false:=decide_eq_false c5
    clear c5
    obtain rfl:=Option.some.inj H
    go_wp2
    go_ret
    exact ⟨_,by rfl,by exact HO_5.out,by exact HB.out⟩

/-! ### spec_l1Cur_loading: function 19 -/
mutual
def spec_l1Cur_loading.j1 : Nat → List (S60) → List Int → List Int → Int → Int → Option (List Int × Int × Int)
 | 0,_,_,_,_,_ => none
 | k + 1,x1,x7,x1000,x1001,x1002 => (spec_l1Cur_pick.f x1000 x1001 x1002 24).bind fun bt350 => (if bt350.1 = 0 then (if x7.length < 17592186044416 then (some ((x7 ++ [0]),bt350.2.1,bt350.2.2)) else (none)) else (if bt350.1 = 1 then (if (x7.length : Int) > 0 then ((spec_l1Cur_pick.f x1000 bt350.2.1 bt350.2.2 (x7.length : Int)).bind fun bt356 => ((spec_l1Cur_among.f x1000 bt356.2.1 bt356.2.2 (([(-2),(x1.length : Int),0] : List Int))).bind fun bt362 => (if 0 ≤ bt356.1 then (if bt356.1 < (x7.length : Int) then (some ((x7.set (bt356.1 : Int).toNat bt362.1),bt362.2.1,bt362.2.2)) else (none)) else (none)))) else (some (x7,bt350.2.1,bt350.2.2))) else (some (x7,bt350.2.1,bt350.2.2))))
def spec_l1Cur_loading.l0 : Nat → List (S60) → List Int → Int → List Int → Int → Int → Option (List Int × Int × Int)
 | 0,_,_,_,_,_,_ => none
 | k + 1,x1,x7,x8,x1000,x1001,x1002 => if x8 > 0 then (if (x7.length : Int) > 0 then ((spec_l1Cur_pick.f x1000 x1001 x1002 (x7.length : Int)).bind fun bt346 => (if 0 ≤ bt346.1 then (if bt346.1 < (x7.length : Int) then (spec_l1Cur_loading.l0 k x1 (x7.set (bt346.1 : Int).toNat (-1)) (wrap64 (x8 - 1)) x1000 bt346.2.1 bt346.2.2) else (none)) else (none))) else (spec_l1Cur_loading.j1 k x1 x7 x1000 x1001 x1002)) else (spec_l1Cur_loading.j1 k x1 x7 x1000 x1001 x1002)
end
def spec_l1Cur_loading.f (k : Nat) (s0_0 : List Int) (s0_1 : Int) (s0_2 : Int) (l1 : List (S60)) (l2 : List (S33)) : Option (List Int × Int × Int):=(spec_l19Order.f k l1 l2).bind fun t340 => ((spec_l1Cur_pick.f s0_0 s0_1 s0_2 3).bind fun bt343 => (spec_l1Cur_loading.l0 k l1 t340 bt343.1 s0_0 bt343.2.1 bt343.2.2))
theorem spec_l1Cur_loading.mono_l : ∀ k,(∀ y0 y1 y2 y3 y4,LeO (spec_l1Cur_loading.j1 k y0 y1 y2 y3 y4) (spec_l1Cur_loading.j1 (k + 1) y0 y1 y2 y3 y4)) ∧ (∀ y0 y1 y2 y3 y4 y5,LeO (spec_l1Cur_loading.l0 k y0 y1 y2 y3 y4 y5) (spec_l1Cur_loading.l0 (k + 1) y0 y1 y2 y3 y4 y5))
 | 0 => ⟨fun _ _ _ _ _ r h => by simp [spec_l1Cur_loading.j1] at h,fun _ _ _ _ _ _ r h => by simp [spec_l1Cur_loading.l0] at h⟩
 | k + 1 => by
  obtain ⟨ih0,ih1⟩ := spec_l1Cur_loading.mono_l k
  refine ⟨?_, ?_⟩
  ·intro y0 y1 y2 y3 y4
   unfold spec_l1Cur_loading.j1
   repeat' first
   | (with_reducible exact ih0 _ _ _ _ _)
   | (with_reducible exact ih1 _ _ _ _ _ _)
   | (with_reducible exact spec_l19Order.mono _ _ _)
   | (with_reducible exact LeO.refl _)
   | (with_reducible exact LeO.none _)
   | (with_reducible refine LeO.ite ?_ ?_)
   | (with_reducible refine LeO.bind ?_ (fun _ => ?_))
   | exact ih0 _ _ _ _ _
   | exact ih1 _ _ _ _ _ _
   | exact spec_l19Order.mono _ _ _
   | exact LeO.none _
   | refine LeO.ite ?_ ?_
   | refine LeO.bind ?_ (fun _ => ?_)
  ·intro y0 y1 y2 y3 y4 y5
   unfold spec_l1Cur_loading.l0
   repeat' first
   | (with_reducible exact ih0 _ _ _ _ _)
   | (with_reducible exact ih1 _ _ _ _ _ _)
   | (with_reducible exact spec_l19Order.mono _ _ _)
   | (with_reducible exact LeO.refl _)
   | (with_reducible exact LeO.none _)
   | (with_reducible refine LeO.ite ?_ ?_)
   | (with_reducible refine LeO.bind ?_ (fun _ => ?_))
   | exact ih0 _ _ _ _ _
   | exact ih1 _ _ _ _ _ _
   | exact spec_l19Order.mono _ _ _
   | exact LeO.none _
   | refine LeO.ite ?_ ?_
   | refine LeO.bind ?_ (fun _ => ?_)
theorem spec_l1Cur_loading.mono : ∀ a0 a1 a2 a3 a4 k,LeO (spec_l1Cur_loading.f k a0 a1 a2 a3 a4) (spec_l1Cur_loading.f (k + 1) a0 a1 a2 a3 a4):=by
 intro a0 a1 a2 a3 a4 k
 obtain ⟨ih0,ih1⟩ := spec_l1Cur_loading.mono_l k
 unfold spec_l1Cur_loading.f
 repeat' first
   | (with_reducible exact ih0 _ _ _ _ _)
   | (with_reducible exact ih1 _ _ _ _ _ _)
   | (with_reducible exact spec_l19Order.mono _ _ _)
   | (with_reducible exact LeO.refl _)
   | (with_reducible exact LeO.none _)
   | (with_reducible refine LeO.ite ?_ ?_)
   | (with_reducible refine LeO.bind ?_ (fun _ => ?_))
   | exact ih0 _ _ _ _ _
   | exact ih1 _ _ _ _ _ _
   | exact spec_l19Order.mono _ _ _
   | exact LeO.none _
   | refine LeO.ite ?_ ?_
   | refine LeO.bind ?_ (fun _ => ?_)
set_option maxHeartbeats 8000000 in
set_option maxRecDepth 100000 in
theorem spec_l1Cur_loading.calls (k : Nat) (g : Nat) (s0_0 : List Int) (s0_1 : Int) (s0_2 : Int) (A1 : Option Addr) (c1 : Nat) (l1 : List (S60)) (A2 : Option Addr) (c2 : Nat) (l2 : List (S33)) (r1 : List Int) (r2 : Int) (r3 : Int) (w0 w : World) (hI : IsS46 w0 w g s0_0 s0_1 s0_2) (hB : Below w0.heap.size w0 w) (hr1 : ∀ W_,KeepBut w W_ g none → Kd.C k60 W_ A1 l1.length l1) (hc1 : l1.length ≤ c1) (hr2 : ∀ W_,KeepBut w W_ g none → Kd.C k33 W_ A2 l2.length l2) (hc2 : l2.length ≤ c2) (h : spec_l1Cur_loading.f k s0_0 s0_1 s0_2 l1 l2 = some (r1,r2,r3)) :
  Calls Try.prog 19 #[.pointer (some ⟨g,0,none⟩), .slice A1 l1.length c1, .slice A2 l2.length c2] w fun e w' => ∃ v0_ : Value,e = .returned (v0_) ∧ Kd.R (Kd.int .i64) 3 w' w.heap.size (fun _ => True) v0_ r1 ∧ IsS46 w0 w' g s0_0 r2 r3 ∧ Below w0.heap.size w0 w' ∧ KeepBut w w' g none:=by
 have HR1:=Aside0.mk hr1
 have HC1:=Aside0.mk hc1
 clear hr1 hc1
 have HR2:=Aside0.mk hr2
 have HC2:=Aside0.mk hc2
 clear hr2 hc2
 have HI0:=Aside0.mk hI
 have HK:=Aside0.mk (KeepBut.refl w g none)
 have HL:=Aside0.mk hB.size
 clear hI
 have HW0:=Aside0.mk hB.size
 have HB:=Aside0.mk hB
 clear hB
 have H : ((spec_l19Order.f k l1 l2).bind fun t340 => ((spec_l1Cur_pick.f s0_0 s0_1 s0_2 3).bind fun bt343 => (spec_l1Cur_loading.l0 k l1 t340 bt343.1 s0_0 bt343.2.1 bt343.2.2))) = some (r1,r2,r3):=h
 clear h
 replace H:=Option.bind_eq_some_iff.mp H
 obtain ⟨t340,A40,H⟩ := H
 replace H : ((spec_l1Cur_pick.f s0_0 s0_1 s0_2 3).bind fun bt343 => (spec_l1Cur_loading.l0 k l1 t340 bt343.1 s0_0 bt343.2.1 bt343.2.2)) = some (r1,r2,r3):=H
 have A4:=Aside0.mk A40
 clear A40
 replace H:=Option.bind_eq_some_iff.mp H
 obtain ⟨⟨t343,t344,t345⟩,A50,H⟩ := H
 replace H : (spec_l1Cur_loading.l0 k l1 t340 t343 s0_0 t344 t345) = some (r1,r2,r3):=H
 have A5:=Aside0.mk A50
 clear A50
 have HC6:=Aside0.mk H
 clear H
 go_enter Try.func19,Try.ntmps19
 go_upto_block 0 with (first | ((with_reducible refine gate_callee (f:=38) rfl ?_);refine goesL_ (some 11) rfl rfl Try.func38 (by kernel_rfl) rfl #[.slice A1 l1.length c1, .slice A2 l2.length c2] rfl (by (try simp only [List.map_toArray,List.map_cons,List.map_nil]);rfl) ?_;(with_reducible refine (spec_l19Order.calls k _ _ l1 _ _ l2 t340 _ ?side1 ?side2 ?side3 ?side4 A4.out).mono ?_);(case side1 => exact Kd.C_foot_now HR1.out (by exact HK.out));(case side2 => exact HC1.out);(case side3 => exact Kd.C_foot_now HR2.out (by exact HK.out));(case side4 => exact HC2.out);rintro e w7 ⟨v341,rfl,ho0,hb⟩;refine ⟨_,rfl, ?_⟩;have n0_:=Aside0.mk (Kd.R_lower ho0 (keep_size (w:=w) (g:=g) (row:=none) (by exact HK.out)));have n1_:=Aside0.mk (IsS46.below (by exact HI0.out) hb);have n2_:=Aside0.mk (KeepBut.trans (by exact HK.out) (KeepBut.of_below hb g none) (.inl rfl));have n3_:=Aside0.mk (below_step (by exact HB.out) hb);clear HI0;clear HK;clear HB;have HO342:=n0_;have HI0:=n1_;have HK:=n2_;have HB:=n3_;clear n0_ n1_ n2_ n3_;(try clear hb);(try clear ho0)) | ((with_reducible refine gate_callee (f:=21) rfl ?_);refine goesL_ (some 13) rfl rfl Try.func21 (by kernel_rfl) rfl #[.pointer (some ⟨g,0,none⟩), .int .i64 3] rfl (by (try simp only [List.map_toArray,List.map_cons,List.map_nil]);rfl) ?_;(with_reducible refine (spec_l1Cur_pick.calls g s0_0 s0_1 s0_2 3 t343 t344 t345 w0 _ ?side1 ?side2 A5.out).mono ?_);(case side1 => exact HI0.out);(case side2 => exact HB.out);rintro e w8 ⟨rfl,hi,hb,hk⟩;refine ⟨_,rfl, ?_⟩;have n0_:=Aside0.mk (Kd.R_mono (Kd.R_keep (IsS46.apart (show IsS46 w0 _ g s0_0 s0_1 s0_2 from by exact HI0.out) (by exact HO342.out) (by decide)) hk (fun _ h => h.2)) (fun _ h => h.1));have n1_:=Aside0.mk (KeepBut.trans (by exact HK.out) hk (.inl rfl));have n2_:=Aside0.mk (hb);have n3_:=Aside0.mk (hi);clear HO342;clear HK;clear HB;clear HI0;have HO342:=n0_;have HK:=n1_;have HB:=n2_;have HI0:=n3_;clear n0_ n1_ n2_ n3_;(try clear hb);(try clear hk);(try clear hi)))
 (skip)
 go_cut [] (fun wc => ∃ (kq : Nat) (x7_5 : List Int) (x1001_5 : Int) (x1002_5 : Int),Aside0 (spec_l1Cur_loading.j1 kq l1 x7_5 s0_0 x1001_5 x1002_5 = some (r1,r2,r3)) ∧ Aside0 (kq ≤ k) ∧ Aside0 (Kd.R (Kd.int .i64) 3 wc w.heap.size (fun _ => True) v341 x7_5) ∧ Aside0 (IsS46 w0 wc g s0_0 x1001_5 x1002_5) ∧ Aside0 (KeepBut w wc g none) ∧ Aside0 (Below w0.heap.size w0 wc))
 case first =>
  have H:=HC6.out
  clear HC6
  have H':=Aside0.mk H
  clear H
  go_wp2
  (skip)
  go_loopg [8] k (fun kq v8 w' => ∃ (x7_1 : List Int) (x8_1 : Int) (x1001_1 : Int) (x1002_1 : Int),v8 = .int .i64 x8_1 ∧ Aside0 (spec_l1Cur_loading.l0 kq l1 x7_1 x8_1 s0_0 x1001_1 x1002_1 = some (r1,r2,r3)) ∧ Aside0 (kq ≤ k) ∧ Aside0 (Kd.R (Kd.int .i64) 3 w' w.heap.size (fun _ => True) v341 x7_1) ∧ Aside0 (IsS46 w0 w' g s0_0 x1001_1 x1002_1) ∧ Aside0 (KeepBut w w' g none) ∧ Aside0 (Below w0.heap.size w0 w'))
  case atStart => exact ⟨(t340),(t343),(t344),(t345),(by rfl),H',⟨Nat.le_refl _⟩,⟨by exact HO342.out⟩,⟨by exact HI0.out⟩,⟨by exact HK.out⟩,⟨by exact HB.out⟩⟩
  case round =>
   clear H'
   try clear c1
   try clear c2
   try clear p2
   try clear c3
   obtain ⟨x7_1,x8_1,x1001_1,x1002_1,rfl,HA,HK1,HO_7,HI0,HK,HB⟩ := hrel
   cases gk with
   | zero => exact absurd HA.out (by simp [spec_l1Cur_loading.l0])
   | succ k1 =>
    have H:=HA.out
    clear HA
    simp only [spec_l1Cur_loading.l0] at H
    by_cases c9 : x8_1 > 0
    ·rw [if_pos c9] at H
     have c9b0 : decide (0 < x8_1) = true:=decide_eq_true c9
     clear c9
     (skip)
     by_cases c10 : (x7_1.length : Int) > 0
     ·rw [if_pos c10] at H
      have c10b0 : decide (0 < (x7_1.length : Int)) = true:=decide_eq_true c10
      have c10b1 : decide (0 < x7_1.length) = true:=decide_eq_true (by omega)
      clear c10
      replace H:=Option.bind_eq_some_iff.mp H
      obtain ⟨⟨t346,t347,t348⟩,A110,H⟩ := H
      replace H : (if 0 ≤ t346 then (if t346 < (x7_1.length : Int) then (spec_l1Cur_loading.l0 k1 l1 (x7_1.set (t346 : Int).toNat (-1)) (wrap64 (x8_1 - 1)) s0_0 t347 t348) else (none)) else (none)) = some (r1,r2,r3):=H
      have A11:=Aside0.mk A110
      clear A110
      by_cases c12 : 0 ≤ t346
      ·rw [if_pos c12] at H
       have c12b0 : decide (0 ≤ t346) = true:=decide_eq_true c12
       clear c12
       by_cases c13 : t346 < (x7_1.length : Int)
       ·rw [if_pos c13] at H
        have c13b0 : decide (t346 < (x7_1.length : Int)) = true:=decide_eq_true c13
        clear c13
        obtain ⟨y349,hy349⟩ : ∃ y_ : List Int,y_ = (x7_1.set (t346 : Int).toNat (-1)):=⟨_,rfl⟩
        replace H : (spec_l1Cur_loading.l0 k1 l1 y349 (wrap64 (x8_1 - 1)) s0_0 t347 t348) = some (r1,r2,r3):=by (rw [hy349];with_reducible exact H)
        have Ny349:=Aside0.mk hy349
        clear hy349
        have H':=Aside0.mk H
        clear H
        obtain ⟨Ao15,co15,eo15⟩ := Kd.R_slice HO_7.out
        subst eo15
        go_wp2_with (first | ((with_reducible refine gate_callee (f:=21) rfl ?_);refine goesL_ (some 27) rfl rfl Try.func21 (by kernel_rfl) rfl #[.pointer (some ⟨g,0,none⟩), .int .i64 (x7_1.length : Int)] rfl (by (try simp only [List.map_toArray,List.map_cons,List.map_nil]);rfl) ?_;(with_reducible refine (spec_l1Cur_pick.calls g s0_0 x1001_1 x1002_1 (x7_1.length : Int) t346 t347 t348 w0 _ ?side1 ?side2 A11.out).mono ?_);(case side1 => exact HI0.out);(case side2 => exact HB.out);rintro e w16 ⟨rfl,hi,hb,hk⟩;refine ⟨_,rfl, ?_⟩;have n0_:=Aside0.mk (Kd.R_mono (Kd.R_keep (IsS46.apart (show IsS46 w0 _ g s0_0 x1001_1 x1002_1 from by exact HI0.out) (by exact HO_7.out) (by decide)) hk (fun _ h => h.2)) (fun _ h => h.1));have n1_:=Aside0.mk (KeepBut.trans (by exact HK.out) hk (.inl rfl));have n2_:=Aside0.mk (hb);have n3_:=Aside0.mk (hi);clear HO_7;clear HK;clear HB;clear HI0;have HO_7:=n0_;have HK:=n1_;have HB:=n2_;have HI0:=n3_;clear n0_ n1_ n2_ n3_;(try clear hb);(try clear hk);(try clear hi);have p14 : 0 ≤ (t346 : Int):=of_decide_eq_true (by (with_reducible assumption));have q14 : (t346 : Int) < ((x7_1.length : Int) : Int):=of_decide_eq_true (by (with_reducible assumption));obtain ⟨go14,co14,eo14,gb14,gl14,cl14,HG14⟩ := Kd.R_form HO_7.out (by omega);(cases eo14);have GB14:=Aside0.mk gb14;have GG14:=Aside0.mk HG14;clear gb14 gl14 HG14;obtain ⟨hx14_0,hf14_0⟩ := Kd.R_celln 0 HO_7.out (t346 : Int) p14 q14;replace p14:=eq_true p14;replace q14:=eq_true q14;obtain ⟨hy17_,hz17_⟩ := Kd.R_celln 0 HO_7.out (t346 : Int) (of_decide_eq_true (by (with_reducible assumption))) (of_decide_eq_true (by (with_reducible assumption)));have HP17:=Kd.R_putg HO_7.out (t346 : Int) (-1)) | ((with_reducible refine gate_store (t:=3) (p:=28) rfl ?_);refine store_event (t:=3) (p:=28) (v:=?vo_w18) (w1:=(w16.setCell ⟨go14,(t346 : Int).toNat,none⟩ (.int .i64 (-1)))) ?hg ?ho ?hn ?hr ?_;(case ho => rfl);(case hg => rfl);(case hn => rfl);(case hr => (go_simp;done));intro w18 hw;have hg : w16.grownBy w18 (some go14):=(by rw [hw];exact HP17.2);have hp_ : Kd.R (Kd.int .i64) 3 w18 w.heap.size (fun _ => True) (.slice (some ⟨go14,0,none⟩) x7_1.length co15) y349:=(by rw [hw,Ny349.out];exact HP17.1);clear HP17;have n0_:=Aside0.mk (hp_);have n1_:=Aside0.mk (IsS46.grownB HI0.out (by exact HI0.out) hg (IsS46.own_ne HI0.out HO_7.out (by decide)));have n2_:=Aside0.mk ((by rw [hw];exact below_set (HB.out) (Nat.le_trans HL.out GB14.out) : Below w0.heap.size w0 w18));have n3_:=Aside0.mk (KeepBut.trans (by exact HK.out) (KeepBut.of_grown hg g) (Kd.R_base2 HO_7.out));clear HO_7;clear HI0;clear HB;clear HK;have HO_7:=n0_;have HI0:=n1_;have HB:=n2_;have HK:=n3_;clear n0_ n1_ n2_ n3_;clear hg hw hp_))
        go_roundg k1
        case measure => have:=HK1.out;omega
        case rel => exact ⟨(y349),(wrap64 (x8_1 - 1)),(t347),(t348),(by rfl),H',⟨by have:=HK1.out;omega⟩,⟨by exact HO_7.out⟩,⟨by exact HI0.out⟩,⟨by exact HK.out⟩,⟨by exact HB.out⟩⟩
       ·rw [if_neg c13] at H
        exact absurd H (by simp)
      ·rw [if_neg c12] at H
       exact absurd H (by simp)
     ·rw [if_neg c10] at H
      have c10b0 : decide (0 < (x7_1.length : Int)) = false:=decide_eq_false c10
      have c10b1 : decide (0 < x7_1.length) = false:=decide_eq_false (by omega)
      clear c10
      have H':=Aside0.mk H
      clear H
      obtain ⟨Ao19,co19,eo19⟩ := Kd.R_slice HO_7.out
      subst eo19
      go_wp2
      go_meet
      case rel => exact ⟨_,(x7_1),(x1001_1),(x1002_1),H',⟨by have:=HK1.out;omega⟩,⟨by exact HO_7.out⟩,⟨by exact HI0.out⟩,⟨by exact HK.out⟩,⟨by exact HB.out⟩⟩
    ·rw [if_neg c9] at H
     have c9b0 : decide (0 < x8_1) = false:=decide_eq_false c9
     clear c9
     (skip)
     have H':=Aside0.mk H
     clear H
     go_wp2
     go_meet
     case rel => exact ⟨_,(x7_1),(x1001_1),(x1002_1),H',⟨by have:=HK1.out;omega⟩,⟨by exact HO_7.out⟩,⟨by exact HI0.out⟩,⟨by exact HK.out⟩,⟨by exact HB.out⟩⟩
 case rest =>
  clear HC6
  try clear c1
  try clear p1
  try clear q1
  try clear hx1
  try clear c2
  try clear p2
  try clear c3
  try clear p6
  try clear c9
  try clear c9b0
  try clear c10
  try clear c10b0
  try clear c10b1
  try clear c12
  try clear c12b0
  try clear c13
  try clear c13b0
  try clear p14
  try clear q14
  try clear hx14
  try clear hf14
  try clear c19
  try clear hx14_0
  try clear p14
  try clear p2
  try clear q14
  obtain ⟨kq,x7_5,x1001_5,x1002_5,HA,HJ5,HO_7,HI0,HK,HB⟩ := hcut
  cases kq with
  | zero => exact absurd HA.out (by simp [spec_l1Cur_loading.j1])
  | succ kj5 =>
   have H:=HA.out
   clear HA
   simp only [spec_l1Cur_loading.j1] at H
   replace H:=Option.bind_eq_some_iff.mp H
   obtain ⟨⟨t350,t351,t352⟩,A200,H⟩ := H
   replace H : (if t350 = 0 then (if x7_5.length < 17592186044416 then (some ((x7_5 ++ [0]),t351,t352)) else (none)) else (if t350 = 1 then (if (x7_5.length : Int) > 0 then ((spec_l1Cur_pick.f s0_0 t351 t352 (x7_5.length : Int)).bind fun bt356 => ((spec_l1Cur_among.f s0_0 bt356.2.1 bt356.2.2 (([(-2),(l1.length : Int),0] : List Int))).bind fun bt362 => (if 0 ≤ bt356.1 then (if bt356.1 < (x7_5.length : Int) then (some ((x7_5.set (bt356.1 : Int).toNat bt362.1),bt362.2.1,bt362.2.2)) else (none)) else (none)))) else (some (x7_5,t351,t352))) else (some (x7_5,t351,t352)))) = some (r1,r2,r3):=H
   have A20:=Aside0.mk A200
   clear A200
   by_cases c21 : t350 = 0
   ·rw [if_pos c21] at H
    have c21b0 : (t350 == 0) = true:=beq_iff_eq.mpr c21
    have c21b1 : (t350 != 0) = false:=bne_eq_false_iff_eq.mpr c21
    clear c21
    by_cases c22 : x7_5.length < 17592186044416
    ·rw [if_pos c22] at H
     have LMc22:=Aside0.mk c22
     clear c22
     obtain ⟨y353,hy353⟩ : ∃ y_ : List Int,y_ = (x7_5 ++ [0]):=⟨_,rfl⟩
     replace H : (some (y353,t351,t352)) = some (r1,r2,r3):=by (rw [hy353];with_reducible exact H)
     have Ny353:=Aside0.mk hy353
     clear hy353
     simp only [Option.some.injEq,Prod.mk.injEq] at H
     obtain ⟨rfl,rfl,rfl⟩ := H
     go_wp2_with (first | ((with_reducible refine gate_callee (f:=21) rfl ?_);refine goesL_ (some 30) rfl rfl Try.func21 (by kernel_rfl) rfl #[.pointer (some ⟨g,0,none⟩), .int .i64 24] rfl (by (try simp only [List.map_toArray,List.map_cons,List.map_nil]);rfl) ?_;(with_reducible refine (spec_l1Cur_pick.calls g s0_0 x1001_5 x1002_5 24 t350 t351 t352 w0 _ ?side1 ?side2 A20.out).mono ?_);(case side1 => exact HI0.out);(case side2 => exact HB.out);rintro e w23 ⟨rfl,hi,hb,hk⟩;refine ⟨_,rfl, ?_⟩;have n0_:=Aside0.mk (Kd.R_mono (Kd.R_keep (IsS46.apart (show IsS46 w0 _ g s0_0 x1001_5 x1002_5 from by exact HI0.out) (by exact HO_7.out) (by decide)) hk (fun _ h => h.2)) (fun _ h => h.1));have n1_:=Aside0.mk (KeepBut.trans (by exact HK.out) hk (.inl rfl));have n2_:=Aside0.mk (hb);have n3_:=Aside0.mk (hi);clear HO_7;clear HK;clear HB;clear HI0;have HO_7:=n0_;have HK:=n1_;have HB:=n2_;have HI0:=n3_;clear n0_ n1_ n2_ n3_;(try clear hb);(try clear hk);(try clear hi)) | ((with_reducible refine gate_builtin (b := .append) (xs:=#[.tmp 33, .tmp 34]) rfl ?_);(try (refine gate_guard (by rfl) ?_;dsimp only));at_builtin;refine Kd.R_append (Kd.int .i64) w.heap.size rfl (.tmp 33) (.tmp 34) 26 3 (.int .i64 0) 8 rfl Try.underlying26 info3 rfl (by decide) (by omega) v341 x7_5 0 [.int .i64 0] (fun _ => True) (fun _ => False) rfl rfl ?aP (fun _ hk => hk.elim) ?aF ?aO (Below.refl _ _) ?aS ?aL ?_;(case aP => exact rfl);(case aF => exact (fun _ _ => trivial));(case aO => exact (by exact HO_7.out));(case aS => exact (keep_size (w:=w) (g:=g) (row:=none) (by exact HK.out)));(case aL => have:=LMc22.out;omega);intro v354 w24 ho hb hg hat;rw [← Ny353.out] at ho;have n0_:=Aside0.mk (IsS46.grownB HI0.out (by exact HI0.out) hg (IsS46.own_ne HI0.out HO_7.out (by decide)));have n1_:=Aside0.mk (below_weaken (by exact HB.out) HL.out hb);have n2_:=Aside0.mk (KeepBut.trans (by exact HK.out) (KeepBut.of_grown hg g) (Kd.R_base2 HO_7.out));have n3_:=Aside0.mk (ho);clear HI0;clear HB;clear HK;clear HO_7;have HI0:=n0_;have HB:=n1_;have HK:=n2_;have HO355:=n3_;clear n0_ n1_ n2_ n3_;clear ho hb hg hat))
     go_ret
     exact ⟨_,by rfl,by exact HO355.out,by exact HI0.out,by exact HB.out,by exact HK.out⟩
    ·rw [if_neg c22] at H
     exact absurd H (by simp)
   ·rw [if_neg c21] at H
    have c21b0 : (t350 == 0) = false:=beq_eq_false_iff_ne.mpr c21
    have c21b1 : (t350 != 0) = true:=bne_iff_ne.mpr c21
    by_cases c25 : t350 = 1
    ·rw [if_pos c25] at H
     have c25b0 : (t350 == 1) = true:=beq_iff_eq.mpr c25
     have c25b1 : (t350 != 1) = false:=bne_eq_false_iff_eq.mpr c25
     clear c25
     by_cases c26 : (x7_5.length : Int) > 0
     ·rw [if_pos c26] at H
      have c26b0 : decide (0 < (x7_5.length : Int)) = true:=decide_eq_true c26
      have c26b1 : decide (0 < x7_5.length) = true:=decide_eq_true (by omega)
      clear c26
      replace H:=Option.bind_eq_some_iff.mp H
      obtain ⟨⟨t356,t357,t358⟩,A270,H⟩ := H
      replace H : ((spec_l1Cur_among.f s0_0 t357 t358 (([(-2),(l1.length : Int),0] : List Int))).bind fun bt362 => (if 0 ≤ t356 then (if t356 < (x7_5.length : Int) then (some ((x7_5.set (t356 : Int).toNat bt362.1),bt362.2.1,bt362.2.2)) else (none)) else (none))) = some (r1,r2,r3):=H
      have A27:=Aside0.mk A270
      clear A270
      obtain ⟨y359,hy359⟩ : ∃ y_ : List Int,y_ = (([(-2),(l1.length : Int),0] : List Int)):=⟨_,rfl⟩
      replace H : ((spec_l1Cur_among.f s0_0 t357 t358 y359).bind fun bt362 => (if 0 ≤ t356 then (if t356 < (x7_5.length : Int) then (some ((x7_5.set (t356 : Int).toNat bt362.1),bt362.2.1,bt362.2.2)) else (none)) else (none))) = some (r1,r2,r3):=by (rw [hy359];with_reducible exact H)
      have Ny359:=Aside0.mk hy359
      clear hy359
      replace H:=Option.bind_eq_some_iff.mp H
      obtain ⟨⟨t362,t363,t364⟩,A280,H⟩ := H
      replace H : (if 0 ≤ t356 then (if t356 < (x7_5.length : Int) then (some ((x7_5.set (t356 : Int).toNat t362),t363,t364)) else (none)) else (none)) = some (r1,r2,r3):=H
      have A28:=Aside0.mk A280
      clear A280
      by_cases c29 : 0 ≤ t356
      ·rw [if_pos c29] at H
       have c29b0 : decide (0 ≤ t356) = true:=decide_eq_true c29
       clear c29
       by_cases c30 : t356 < (x7_5.length : Int)
       ·rw [if_pos c30] at H
        have c30b0 : decide (t356 < (x7_5.length : Int)) = true:=decide_eq_true c30
        clear c30
        obtain ⟨y365,hy365⟩ : ∃ y_ : List Int,y_ = (x7_5.set (t356 : Int).toNat t362):=⟨_,rfl⟩
        replace H : (some (y365,t363,t364)) = some (r1,r2,r3):=by (rw [hy365];with_reducible exact H)
        have Ny365:=Aside0.mk hy365
        clear hy365
        simp only [Option.some.injEq,Prod.mk.injEq] at H
        obtain ⟨rfl,rfl,rfl⟩ := H
        go_wp2_with (first | ((with_reducible refine gate_callee (f:=21) rfl ?_);refine goesL_ (some 30) rfl rfl Try.func21 (by kernel_rfl) rfl #[.pointer (some ⟨g,0,none⟩), .int .i64 24] rfl (by (try simp only [List.map_toArray,List.map_cons,List.map_nil]);rfl) ?_;(with_reducible refine (spec_l1Cur_pick.calls g s0_0 x1001_5 x1002_5 24 t350 t351 t352 w0 _ ?side1 ?side2 A20.out).mono ?_);(case side1 => exact HI0.out);(case side2 => exact HB.out);rintro e w32 ⟨rfl,hi,hb,hk⟩;refine ⟨_,rfl, ?_⟩;have n0_:=Aside0.mk (Kd.R_mono (Kd.R_keep (IsS46.apart (show IsS46 w0 _ g s0_0 x1001_5 x1002_5 from by exact HI0.out) (by exact HO_7.out) (by decide)) hk (fun _ h => h.2)) (fun _ h => h.1));have n1_:=Aside0.mk (KeepBut.trans (by exact HK.out) hk (.inl rfl));have n2_:=Aside0.mk (hb);have n3_:=Aside0.mk (hi);clear HO_7;clear HK;clear HB;clear HI0;have HO_7:=n0_;have HK:=n1_;have HB:=n2_;have HI0:=n3_;clear n0_ n1_ n2_ n3_;(try clear hb);(try clear hk);(try clear hi);obtain ⟨Ao33,co33,eo33⟩ := Kd.R_slice HO_7.out;subst eo33) | ((with_reducible refine gate_callee (f:=21) rfl ?_);refine goesL_ (some 45) rfl rfl Try.func21 (by kernel_rfl) rfl #[.pointer (some ⟨g,0,none⟩), .int .i64 (x7_5.length : Int)] rfl (by (try simp only [List.map_toArray,List.map_cons,List.map_nil]);rfl) ?_;(with_reducible refine (spec_l1Cur_pick.calls g s0_0 t351 t352 (x7_5.length : Int) t356 t357 t358 w0 _ ?side1 ?side2 A27.out).mono ?_);(case side1 => exact HI0.out);(case side2 => exact HB.out);rintro e w34 ⟨rfl,hi,hb,hk⟩;refine ⟨_,rfl, ?_⟩;have n0_:=Aside0.mk (Kd.R_mono (Kd.R_keep (IsS46.apart (show IsS46 w0 _ g s0_0 t351 t352 from by exact HI0.out) (by exact HO_7.out) (by decide)) hk (fun _ h => h.2)) (fun _ h => h.1));have n1_:=Aside0.mk (KeepBut.trans (by exact HK.out) hk (.inl rfl));have n2_:=Aside0.mk (hb);have n3_:=Aside0.mk (hi);clear HO_7;clear HK;clear HB;clear HI0;have HO_7:=n0_;have HK:=n1_;have HB:=n2_;have HI0:=n3_;clear n0_ n1_ n2_ n3_;(try clear hb);(try clear hk);(try clear hi)) | ((with_reducible refine gate_dst (N:=49) rfl ?_);(try (refine gate_guard (by rfl) ?_;dsimp only));refine Kd.R_lit (Kd.int .i64) _ 3 ?hg (N:=49) ?hd (xs:=([(-2),(l1.length : Int),0] : List Int)) (inner := [.int .i64 (-2), .int .i64 (l1.length : Int), .int .i64 0]) (ok:=fun _ => True) (okp:=fun _ => True) ?hr ?hp (fun _ hk => hk) trivial (Below.refl _ _) (Nat.le_refl _) (by simp) ?_;(case hd => rfl);(case hg => rfl);(case hr => (go_simp;done));(case hp => exact (Reps.one (show Kd.M (Kd.int .i64) _ _ _ (-2) [.int .i64 (-2)] from rfl) (Reps.one (show Kd.M (Kd.int .i64) _ _ _ (l1.length : Int) [.int .i64 (l1.length : Int)] from rfl) (Reps.one (show Kd.M (Kd.int .i64) _ _ _ 0 [.int .i64 0] from rfl) (Reps.none _ _)))));intro v360 w35 ho36 hb hg_ hnew_;clear hg_ hnew_;(rw [← Ny359.out] at ho36);have n0_:=Aside0.mk (Kd.R_elder' (by exact HO_7.out) (Kd.R_base ho36) hb);have n1_:=Aside0.mk (Kd.R_lower (Kd.R_new' ho36 (Kd.R_lt (by exact HO_7.out))) (keep_size (w:=w) (g:=g) (row:=none) (by exact HK.out)));have n2_:=Aside0.mk (IsS46.below (by exact HI0.out) hb);have n3_:=Aside0.mk (KeepBut.trans (by exact HK.out) (KeepBut.of_below hb g none) (.inl rfl));have n4_:=Aside0.mk (below_step (by exact HB.out) hb);clear HO_7;clear HI0;clear HK;clear HB;have HO_7:=n0_;have HO361:=n1_;have HI0:=n2_;have HK:=n3_;have HB:=n4_;clear n0_ n1_ n2_ n3_ n4_;clear hb ho36;obtain ⟨Ao37,co37,eo37⟩ := Kd.R_slice HO361.out;subst eo37) | ((with_reducible refine gate_callee (f:=34) rfl ?_);refine goesL_ (some 50) rfl rfl Try.func34 (by kernel_rfl) rfl #[.pointer (some ⟨g,0,none⟩), .slice Ao37 y359.length co37] rfl (by (try simp only [List.map_toArray,List.map_cons,List.map_nil]);rfl) ?_;(with_reducible refine (spec_l1Cur_among.calls g s0_0 t357 t358 _ _ y359 t362 t363 t364 w0 _ ?side1 ?side2 ?side3 ?side4 ?side5 A28.out).mono ?_);(case side1 => exact HI0.out);(case side2 => exact HB.out);(case side3 => repeat (exact (Kd.R_reads' HO361.out).2.2));(case side4 => exact (Kd.R_reads' HO361.out).2.1);(case side5 => exact far_slice (IsS46.own_ne HI0.out HO361.out (by decide)));rintro e w38 ⟨rfl,hi,hb,hk⟩;refine ⟨_,rfl, ?_⟩;have n0_:=Aside0.mk (Kd.R_mono (Kd.R_keep (IsS46.apart (show IsS46 w0 _ g s0_0 t357 t358 from by exact HI0.out) (by exact HO_7.out) (by decide)) hk (fun _ h => h.2)) (fun _ h => h.1));have n1_:=Aside0.mk (Kd.R_mono (Kd.R_keep (IsS46.apart (show IsS46 w0 _ g s0_0 t357 t358 from by exact HI0.out) (by exact HO361.out) (by decide)) hk (fun _ h => h.2)) (fun _ h => h.1));have n2_:=Aside0.mk (KeepBut.trans (by exact HK.out) hk (.inl rfl));have n3_:=Aside0.mk (hb);have n4_:=Aside0.mk (hi);clear HO_7;clear HO361;clear HK;clear HB;clear HI0;have HO_7:=n0_;have HO361:=n1_;have HK:=n2_;have HB:=n3_;have HI0:=n4_;clear n0_ n1_ n2_ n3_ n4_;(try clear hb);(try clear hk);(try clear hi);have p31 : 0 ≤ (t356 : Int):=of_decide_eq_true (by (with_reducible assumption));have q31 : (t356 : Int) < ((x7_5.length : Int) : Int):=of_decide_eq_true (by (with_reducible assumption));obtain ⟨go31,co31,eo31,gb31,gl31,cl31,HG31⟩ := Kd.R_form HO_7.out (by omega);(cases eo31);have GB31:=Aside0.mk gb31;have GG31:=Aside0.mk HG31;clear gb31 gl31 HG31;obtain ⟨hx31_0,hf31_0⟩ := Kd.R_celln 0 HO_7.out (t356 : Int) p31 q31;replace p31:=eq_true p31;replace q31:=eq_true q31;have n_:=Aside0.mk (Kd.R_mono (ok':=(fun k_ => some k_ ≠ (.slice Ao37 y359.length co37 : Value).ownBlock)) HO_7.out (fun k_ hk => hk.2));clear HO_7;have HO_7:=n_;clear n_;obtain ⟨hy39_,hz39_⟩ := Kd.R_celln 0 HO_7.out (t356 : Int) (of_decide_eq_true (by (with_reducible assumption))) (of_decide_eq_true (by (with_reducible assumption)));have HP39:=Kd.R_putg HO_7.out (t356 : Int) t362) | ((with_reducible refine gate_store (t:=3) (p:=51) rfl ?_);refine store_event (t:=3) (p:=51) (v:=?vo_w40) (w1:=(w38.setCell ⟨go31,(t356 : Int).toNat,none⟩ (.int .i64 t362))) ?hg ?ho ?hn ?hr ?_;(case ho => rfl);(case hg => rfl);(case hn => rfl);(case hr => (go_simp;done));intro w40 hw;have hg : w38.grownBy w40 (some go31):=(by rw [hw];exact HP39.2);have hp_ : Kd.R (Kd.int .i64) 3 w40 w.heap.size (fun k_ => some k_ ≠ (.slice Ao37 y359.length co37 : Value).ownBlock) (.slice (some ⟨go31,0,none⟩) x7_5.length co33) y365:=(by rw [hw,Ny365.out];exact HP39.1);clear HP39;have n0_:=Aside0.mk (hp_);have n1_:=Aside0.mk (IsS46.grownB HI0.out (by exact HI0.out) hg (IsS46.own_ne HI0.out HO_7.out (by decide)));have n2_:=Aside0.mk (Kd.R_after (v:=(.slice (some ⟨go31,0,none⟩) x7_5.length co33)) (v1:=(.slice (some ⟨go31,0,none⟩) x7_5.length co33)) (ok:=(fun _ => True)) (by exact HO361.out) hg (.inl rfl));have n3_:=Aside0.mk ((by rw [hw];exact below_set (HB.out) (Nat.le_trans HL.out GB31.out) : Below w0.heap.size w0 w40));have n4_:=Aside0.mk (KeepBut.trans (by exact HK.out) (KeepBut.of_grown hg g) (Kd.R_base2 HO_7.out));clear HO_7;clear HI0;clear HO361;clear HB;clear HK;have HO_7:=n0_;have HI0:=n1_;have HO361:=n2_;have HB:=n3_;have HK:=n4_;clear n0_ n1_ n2_ n3_ n4_;clear hg hw hp_))
        go_ret
        exact ⟨_,by rfl,by exact Kd.R_mono HO_7.out (fun _ hk => trivial),by exact HI0.out,by exact HB.out,by exact HK.out⟩
       ·rw [if_neg c30] at H
        exact absurd H (by simp)
      ·rw [if_neg c29] at H
       exact absurd H (by simp)
     ·rw [if_neg c26] at H
      have c26b0 : decide (0 < (x7_5.length : Int)) = false:=decide_eq_false c26
      have c26b1 : decide (0 < x7_5.length) = false:=decide_eq_false (by omega)
      clear c26
      simp only [Option.some.injEq,Prod.mk.injEq] at H
      obtain ⟨rfl,rfl,rfl⟩ := H
      go_wp2_with (((with_reducible refine gate_callee (f:=21) rfl ?_);refine goesL_ (some 30) rfl rfl Try.func21 (by kernel_rfl) rfl #[.pointer (some ⟨g,0,none⟩), .int .i64 24] rfl (by (try simp only [List.map_toArray,List.map_cons,List.map_nil]);rfl) ?_;(with_reducible refine (spec_l1Cur_pick.calls g s0_0 x1001_5 x1002_5 24 t350 t351 t352 w0 _ ?side1 ?side2 A20.out).mono ?_);(case side1 => exact HI0.out);(case side2 => exact HB.out);rintro e w41 ⟨rfl,hi,hb,hk⟩;refine ⟨_,rfl, ?_⟩;have n0_:=Aside0.mk (Kd.R_mono (Kd.R_keep (IsS46.apart (show IsS46 w0 _ g s0_0 x1001_5 x1002_5 from by exact HI0.out) (by exact HO_7.out) (by decide)) hk (fun _ h => h.2)) (fun _ h => h.1));have n1_:=Aside0.mk (KeepBut.trans (by exact HK.out) hk (.inl rfl));have n2_:=Aside0.mk (hb);have n3_:=Aside0.mk (hi);clear HO_7;clear HK;clear HB;clear HI0;have HO_7:=n0_;have HK:=n1_;have HB:=n2_;have HI0:=n3_;clear n0_ n1_ n2_ n3_;(try clear hb);(try clear hk);(try clear hi);obtain ⟨Ao42,co42,eo42⟩ := Kd.R_slice HO_7.out;subst eo42))
      go_ret
      exact ⟨_,by rfl,by exact HO_7.out,by exact HI0.out,by exact HB.out,by exact HK.out⟩
    ·rw [if_neg c25] at H
     have c25b0 : (t350 == 1) = false:=beq_eq_false_iff_ne.mpr c25
     have c25b1 : (t350 != 1) = true:=bne_iff_ne.mpr c25
     simp only [Option.some.injEq,Prod.mk.injEq] at H
     obtain ⟨rfl,rfl,rfl⟩ := H
     go_wp2_with (((with_reducible refine gate_callee (f:=21) rfl ?_);refine goesL_ (some 30) rfl rfl Try.func21 (by kernel_rfl) rfl #[.pointer (some ⟨g,0,none⟩), .int .i64 24] rfl (by (try simp only [List.map_toArray,List.map_cons,List.map_nil]);rfl) ?_;(with_reducible refine (spec_l1Cur_pick.calls g s0_0 x1001_5 x1002_5 24 t350 t351 t352 w0 _ ?side1 ?side2 A20.out).mono ?_);(case side1 => exact HI0.out);(case side2 => exact HB.out);rintro e w43 ⟨rfl,hi,hb,hk⟩;refine ⟨_,rfl, ?_⟩;have n0_:=Aside0.mk (Kd.R_mono (Kd.R_keep (IsS46.apart (show IsS46 w0 _ g s0_0 x1001_5 x1002_5 from by exact HI0.out) (by exact HO_7.out) (by decide)) hk (fun _ h => h.2)) (fun _ h => h.1));have n1_:=Aside0.mk (KeepBut.trans (by exact HK.out) hk (.inl rfl));have n2_:=Aside0.mk (hb);have n3_:=Aside0.mk (hi);clear HO_7;clear HK;clear HB;clear HI0;have HO_7:=n0_;have HK:=n1_;have HB:=n2_;have HI0:=n3_;clear n0_ n1_ n2_ n3_;(try clear hb);(try clear hk);(try clear hi)))
     go_ret
     exact ⟨_,by rfl,by exact HO_7.out,by exact HI0.out,by exact HB.out,by exact HK.out⟩

/-! ### spec_DrawMoveToWagon: function 5 -/
def spec_DrawMoveToWagon.j0 : Nat → List (S60) → List (S33) → List Int → ByteArray → Bool → List Int → Int → Int → Option ((List (S60)) × (List (S33)) × List Int × ByteArray × Int)
 | 0,_,_,_,_,_,_,_,_ => none
 | k + 1,x8,x9,x10,x11,x30,x367000,x367001,x367002 => if x30 = true then ((spec_l1Cur_pick.f x367000 x367001 x367002 (x9.length : Int)).bind fun bt385 => (if 0 ≤ bt385.1 then (if bt385.1 < (x9.length : Int) then ((spec_l1Cur_pick.f x367000 bt385.2.1 bt385.2.2 (wrap64 ((x8.length : Int) + 2))).bind fun bt389 => (some (x8,x9,x10,(rd_T33 x9 bt385.1).f0,wrap64 (bt389.1 - 1)))) else (none)) else (none))) else ((spec_l1Cur_pick.f x367000 x367001 x367002 (wrap64 ((x8.length : Int) + 2))).bind fun bt392 => (some (x8,x9,x10,x11,wrap64 (bt392.1 - 1))))
def spec_DrawMoveToWagon.f (k : Nat) (l0 : List Int) : Option ((List (S60)) × (List (S33)) × List Int × ByteArray × Int):=(spec_l1Cur_train.f k l0 0 0 4).bind fun bt367 => ((spec_l1Cur_containers.f k l0 bt367.2.1 bt367.2.2).bind fun bt372 => ((spec_l1Cur_loading.f k l0 bt372.2.1 bt372.2.2 bt367.1 bt372.1).bind fun bt377 => (if (bt372.1.length : Int) > 0 then ((spec_l1Cur_one.f l0 bt377.2.1 bt377.2.2 12).bind fun bt382 => (spec_DrawMoveToWagon.j0 k bt367.1 bt372.1 bt377.1 (⟨#[65,65,65,48,48,48,48,65]⟩ : ByteArray) (!bt382.1) l0 bt382.2.1 bt382.2.2)) else (spec_DrawMoveToWagon.j0 k bt367.1 bt372.1 bt377.1 (⟨#[65,65,65,48,48,48,48,65]⟩ : ByteArray) false l0 bt377.2.1 bt377.2.2))))
theorem spec_DrawMoveToWagon.mono_l : ∀ k,(∀ y0 y1 y2 y3 y4 y5 y6 y7,LeO (spec_DrawMoveToWagon.j0 k y0 y1 y2 y3 y4 y5 y6 y7) (spec_DrawMoveToWagon.j0 (k + 1) y0 y1 y2 y3 y4 y5 y6 y7))
 | 0 => fun _ _ _ _ _ _ _ _ r h => by simp [spec_DrawMoveToWagon.j0] at h
 | k + 1 => by
  have ih0:=spec_DrawMoveToWagon.mono_l k
  ·intro y0 y1 y2 y3 y4 y5 y6 y7
   unfold spec_DrawMoveToWagon.j0
   repeat' first
   | (with_reducible exact ih0 _ _ _ _ _ _ _ _)
   | (with_reducible exact spec_l1Cur_containers.mono _ _ _ _)
   | (with_reducible exact spec_l1Cur_loading.mono _ _ _ _ _ _)
   | (with_reducible exact spec_l1Cur_train.mono _ _ _ _ _)
   | (with_reducible exact LeO.refl _)
   | (with_reducible exact LeO.none _)
   | (with_reducible refine LeO.ite ?_ ?_)
   | (with_reducible refine LeO.bind ?_ (fun _ => ?_))
   | exact ih0 _ _ _ _ _ _ _ _
   | exact spec_l1Cur_containers.mono _ _ _ _
   | exact spec_l1Cur_loading.mono _ _ _ _ _ _
   | exact spec_l1Cur_train.mono _ _ _ _ _
   | exact LeO.none _
   | refine LeO.ite ?_ ?_
   | refine LeO.bind ?_ (fun _ => ?_)
theorem spec_DrawMoveToWagon.mono : ∀ a0 k,LeO (spec_DrawMoveToWagon.f k a0) (spec_DrawMoveToWagon.f (k + 1) a0):=by
 intro a0 k
 have ih0:=spec_DrawMoveToWagon.mono_l k
 unfold spec_DrawMoveToWagon.f
 repeat' first
   | (with_reducible exact ih0 _ _ _ _ _ _ _ _)
   | (with_reducible exact spec_l1Cur_containers.mono _ _ _ _)
   | (with_reducible exact spec_l1Cur_loading.mono _ _ _ _ _ _)
   | (with_reducible exact spec_l1Cur_train.mono _ _ _ _ _)
   | (with_reducible exact LeO.refl _)
   | (with_reducible exact LeO.none _)
   | (with_reducible refine LeO.ite ?_ ?_)
   | (with_reducible refine LeO.bind ?_ (fun _ => ?_))
   | exact ih0 _ _ _ _ _ _ _ _
   | exact spec_l1Cur_containers.mono _ _ _ _
   | exact spec_l1Cur_loading.mono _ _ _ _ _ _
   | exact spec_l1Cur_train.mono _ _ _ _ _
   | exact LeO.none _
   | refine LeO.ite ?_ ?_
   | refine LeO.bind ?_ (fun _ => ?_)
set_option maxHeartbeats 8000000 in
set_option maxRecDepth 100000 in
theorem spec_DrawMoveToWagon.calls (k : Nat) (A0 : Option Addr) (c0 : Nat) (l0 : List Int) (r1 : List (S60)) (r2 : List (S33)) (r3 : List Int) (r4 : ByteArray) (r5 : Int) (w : World) (hr0 : Kd.C (Kd.int .u8) w A0 l0.length l0) (hc0 : l0.length ≤ c0) (h : spec_DrawMoveToWagon.f k l0 = some (r1,r2,r3,r4,r5)) :
  Calls Try.prog 5 #[.slice A0 l0.length c0] w fun e w' => ∃ v0_ v1_ v2_ : Value,e = .returned (.tuple #[v0_,v1_,v2_, .string r4, .int .i64 r5]) ∧ Kd.R k60 60 w' w.heap.size (fun _ => True) v0_ r1 ∧ Kd.R k33 33 w' w.heap.size (fun _ => True) v1_ r2 ∧ Kd.R (Kd.int .i64) 3 w' w.heap.size (fun _ => True) v2_ r3 ∧ Below w.heap.size w w':=by
 have hu46:=Try.underlying46
 have HR0:=Aside0.mk hr0
 have HC0:=Aside0.mk hc0
 clear hr0 hc0
 have HB:=Aside0.mk (Below.refl w.heap.size w)
 have H : ((spec_l1Cur_train.f k l0 0 0 4).bind fun bt367 => ((spec_l1Cur_containers.f k l0 bt367.2.1 bt367.2.2).bind fun bt372 => ((spec_l1Cur_loading.f k l0 bt372.2.1 bt372.2.2 bt367.1 bt372.1).bind fun bt377 => (if (bt372.1.length : Int) > 0 then ((spec_l1Cur_one.f l0 bt377.2.1 bt377.2.2 12).bind fun bt382 => (spec_DrawMoveToWagon.j0 k bt367.1 bt372.1 bt377.1 (⟨#[65,65,65,48,48,48,48,65]⟩ : ByteArray) (!bt382.1) l0 bt382.2.1 bt382.2.2)) else (spec_DrawMoveToWagon.j0 k bt367.1 bt372.1 bt377.1 (⟨#[65,65,65,48,48,48,48,65]⟩ : ByteArray) false l0 bt377.2.1 bt377.2.2))))) = some (r1,r2,r3,r4,r5):=h
 clear h
 replace H:=Option.bind_eq_some_iff.mp H
 obtain ⟨⟨t367,t370,t371⟩,A20,H⟩ := H
 replace H : ((spec_l1Cur_containers.f k l0 t370 t371).bind fun bt372 => ((spec_l1Cur_loading.f k l0 bt372.2.1 bt372.2.2 t367 bt372.1).bind fun bt377 => (if (bt372.1.length : Int) > 0 then ((spec_l1Cur_one.f l0 bt377.2.1 bt377.2.2 12).bind fun bt382 => (spec_DrawMoveToWagon.j0 k t367 bt372.1 bt377.1 (⟨#[65,65,65,48,48,48,48,65]⟩ : ByteArray) (!bt382.1) l0 bt382.2.1 bt382.2.2)) else (spec_DrawMoveToWagon.j0 k t367 bt372.1 bt377.1 (⟨#[65,65,65,48,48,48,48,65]⟩ : ByteArray) false l0 bt377.2.1 bt377.2.2)))) = some (r1,r2,r3,r4,r5):=H
 have A2:=Aside0.mk A20
 clear A20
 replace H:=Option.bind_eq_some_iff.mp H
 obtain ⟨⟨t372,t375,t376⟩,A30,H⟩ := H
 replace H : ((spec_l1Cur_loading.f k l0 t375 t376 t367 t372).bind fun bt377 => (if (t372.length : Int) > 0 then ((spec_l1Cur_one.f l0 bt377.2.1 bt377.2.2 12).bind fun bt382 => (spec_DrawMoveToWagon.j0 k t367 t372 bt377.1 (⟨#[65,65,65,48,48,48,48,65]⟩ : ByteArray) (!bt382.1) l0 bt382.2.1 bt382.2.2)) else (spec_DrawMoveToWagon.j0 k t367 t372 bt377.1 (⟨#[65,65,65,48,48,48,48,65]⟩ : ByteArray) false l0 bt377.2.1 bt377.2.2))) = some (r1,r2,r3,r4,r5):=H
 have A3:=Aside0.mk A30
 clear A30
 replace H:=Option.bind_eq_some_iff.mp H
 obtain ⟨⟨t377,t380,t381⟩,A40,H⟩ := H
 replace H : (if (t372.length : Int) > 0 then ((spec_l1Cur_one.f l0 t380 t381 12).bind fun bt382 => (spec_DrawMoveToWagon.j0 k t367 t372 t377 (⟨#[65,65,65,48,48,48,48,65]⟩ : ByteArray) (!bt382.1) l0 bt382.2.1 bt382.2.2)) else (spec_DrawMoveToWagon.j0 k t367 t372 t377 (⟨#[65,65,65,48,48,48,48,65]⟩ : ByteArray) false l0 t380 t381)) = some (r1,r2,r3,r4,r5):=H
 have A4:=Aside0.mk A40
 clear A40
 have HC5:=Aside0.mk H
 clear H
 go_enter Try.func5,Try.ntmps5
 go_upto_region 6 with (first | ((with_reducible refine gate_dst (N:=14) rfl ?_);refine box_event ?hg (N:=14) ?hd (cs:=#[.slice A0 l0.length c0, .int .i64 0, .int .u64 0]) (t:=46) ?hr ?_;(case hd => rfl);(case hg => rfl);(case hr => (go_simp;done));intro gb366 hg w6 hbox hb;have n0_:=Aside0.mk (below_step (by exact HB.out) hb);have n1_:=Aside0.mk ((show IsS46 w _ gb366 l0 0 0 from ⟨_,_,hbox,(by rw [hg];exact (below_size (by exact HB.out)) : w.heap.size ≤ gb366),HR0.out⟩));clear HB;have HB:=n0_;have HI366:=n1_;clear n0_ n1_;clear hb hbox hg) | ((with_reducible refine gate_callee (f:=17) rfl ?_);refine goesL_ (some 16) rfl rfl Try.func17 (by kernel_rfl) rfl #[.pointer (some ⟨gb366,0,none⟩), .int .i64 4] rfl (by (try simp only [List.map_toArray,List.map_cons,List.map_nil]);rfl) ?_;(with_reducible refine (spec_l1Cur_train.calls k gb366 l0 0 0 4 t367 t370 t371 w _ ?side1 ?side2 A2.out).mono ?_);(case side1 => exact HI366.out);(case side2 => exact HB.out);rintro e w7 ⟨v368,rfl,ho0,hi,hb,hk⟩;refine ⟨_,rfl, ?_⟩;have n0_:=Aside0.mk (Kd.R_lower ho0 (below_size (by exact HB.out)));have n1_:=Aside0.mk (hb);have n2_:=Aside0.mk (hi);clear HB;clear HI366;have HO369:=n0_;have HB:=n1_;have HI366:=n2_;clear n0_ n1_ n2_;(try clear hb);(try clear hk);(try clear hi);(try clear ho0)) | ((with_reducible refine gate_callee (f:=18) rfl ?_);refine goesL_ (some 18) rfl rfl Try.func18 (by kernel_rfl) rfl #[.pointer (some ⟨gb366,0,none⟩)] rfl (by (try simp only [List.map_toArray,List.map_cons,List.map_nil]);rfl) ?_;(with_reducible refine (spec_l1Cur_containers.calls k gb366 l0 t370 t371 t372 t375 t376 w _ ?side1 ?side2 A3.out).mono ?_);(case side1 => exact HI366.out);(case side2 => exact HB.out);rintro e w8 ⟨v373,rfl,ho0,hi,hb,hk⟩;refine ⟨_,rfl, ?_⟩;have n0_:=Aside0.mk (Kd.R_mono (Kd.R_keep (IsS46.apart (show IsS46 w _ gb366 l0 t370 t371 from by exact HI366.out) (by exact HO369.out) (by decide)) hk (fun _ h => h.2)) (fun _ h => h.1));have n1_:=Aside0.mk (Kd.R_lower ho0 (below_size (by exact HB.out)));have n2_:=Aside0.mk (hb);have n3_:=Aside0.mk (hi);clear HO369;clear HB;clear HI366;have HO369:=n0_;have HO374:=n1_;have HB:=n2_;have HI366:=n3_;clear n0_ n1_ n2_ n3_;(try clear hb);(try clear hk);(try clear hi);(try clear ho0);obtain ⟨Ao9,co9,eo9⟩ := Kd.R_slice HO369.out;subst eo9;obtain ⟨Ao10,co10,eo10⟩ := Kd.R_slice HO374.out;subst eo10) | ((with_reducible refine gate_callee (f:=19) rfl ?_);refine goesL_ (some 22) rfl rfl Try.func19 (by kernel_rfl) rfl #[.pointer (some ⟨gb366,0,none⟩), .slice Ao9 t367.length co9, .slice Ao10 t372.length co10] rfl (by (try simp only [List.map_toArray,List.map_cons,List.map_nil]);rfl) ?_;(with_reducible refine (spec_l1Cur_loading.calls k gb366 l0 t375 t376 _ _ t367 _ _ t372 t377 t380 t381 w _ ?side1 ?side2 ?side3 ?side4 ?side5 ?side6 A4.out).mono ?_);(case side1 => exact HI366.out);(case side2 => exact HB.out);(case side3 => exact Kd.C_foot_own (IsS46.apart (show IsS46 w _ gb366 l0 t375 t376 from by exact HI366.out) (by exact HO369.out) (by decide)) (fun _ h_ => h_.2));(case side4 => exact (Kd.R_reads' HO369.out).2.1);(case side5 => exact Kd.C_foot_own (IsS46.apart (show IsS46 w _ gb366 l0 t375 t376 from by exact HI366.out) (by exact HO374.out) (by decide)) (fun _ h_ => h_.2));(case side6 => exact (Kd.R_reads' HO374.out).2.1);rintro e w11 ⟨v378,rfl,ho0,hi,hb,hk⟩;refine ⟨_,rfl, ?_⟩;have n0_:=Aside0.mk (Kd.R_mono (Kd.R_keep (IsS46.apart (show IsS46 w _ gb366 l0 t375 t376 from by exact HI366.out) (by exact HO369.out) (by decide)) hk (fun _ h => h.2)) (fun _ h => h.1));have n1_:=Aside0.mk (Kd.R_mono (Kd.R_keep (IsS46.apart (show IsS46 w _ gb366 l0 t375 t376 from by exact HI366.out) (by exact HO374.out) (by decide)) hk (fun _ h => h.2)) (fun _ h => h.1));have n2_:=Aside0.mk (Kd.R_lower ho0 (below_size (by exact HB.out)));have n3_:=Aside0.mk (hb);have n4_:=Aside0.mk (hi);clear HO369;clear HO374;clear HB;clear HI366;have HO369:=n0_;have HO374:=n1_;have HO379:=n2_;have HB:=n3_;have HI366:=n4_;clear n0_ n1_ n2_ n3_ n4_;(try clear hb);(try clear hk);(try clear hi);(try clear ho0)))
 (skip)
 go_cut [30] (fun v30 wc => ∃ (kq : Nat) (x30_4 : Bool) (x367001_4 : Int) (x367002_4 : Int),v30 = .bool x30_4 ∧ Aside0 (spec_DrawMoveToWagon.j0 kq t367 t372 t377 (⟨#[65,65,65,48,48,48,48,65]⟩ : ByteArray) x30_4 l0 x367001_4 x367002_4 = some (r1,r2,r3,r4,r5)) ∧ Aside0 (kq ≤ k) ∧ Aside0 (Kd.R k60 60 wc w.heap.size (fun _ => True) (.slice Ao9 t367.length co9) t367) ∧ Aside0 (Kd.R k33 33 wc w.heap.size (fun _ => True) (.slice Ao10 t372.length co10) t372) ∧ Aside0 (Kd.R (Kd.int .i64) 3 wc w.heap.size (fun _ => True) v378 t377) ∧ Aside0 (IsS46 w wc gb366 l0 x367001_4 x367002_4) ∧ Aside0 (Below w.heap.size w wc))
 case first =>
  have H:=HC5.out
  clear HC5
  by_cases c12 : (t372.length : Int) > 0
  ·rw [if_pos c12] at H
   have c12b0 : decide (0 < (t372.length : Int)) = true:=decide_eq_true c12
   have c12b1 : decide (0 < t372.length) = true:=decide_eq_true (by omega)
   clear c12
   (skip)
   replace H:=Option.bind_eq_some_iff.mp H
   obtain ⟨⟨t382,t383,t384⟩,A130,H⟩ := H
   replace H : (spec_DrawMoveToWagon.j0 k t367 t372 t377 (⟨#[65,65,65,48,48,48,48,65]⟩ : ByteArray) (!t382) l0 t383 t384) = some (r1,r2,r3,r4,r5):=H
   have A13:=Aside0.mk A130
   clear A130
   have H':=Aside0.mk H
   clear H
   go_wp2_with ((go_at_call 20;(with_reducible refine (spec_l1Cur_one.calls gb366 l0 t380 t381 12 t382 t383 t384 w _ ?side1 ?side2 A13.out).mono ?_);(case side1 => exact HI366.out);(case side2 => exact HB.out);rintro e w14 ⟨rfl,hi,hb,hk⟩;have n0_:=Aside0.mk (Kd.R_mono (Kd.R_keep (IsS46.apart (show IsS46 w _ gb366 l0 t380 t381 from by exact HI366.out) (by exact HO369.out) (by decide)) hk (fun _ h => h.2)) (fun _ h => h.1));have n1_:=Aside0.mk (Kd.R_mono (Kd.R_keep (IsS46.apart (show IsS46 w _ gb366 l0 t380 t381 from by exact HI366.out) (by exact HO374.out) (by decide)) hk (fun _ h => h.2)) (fun _ h => h.1));have n2_:=Aside0.mk (Kd.R_mono (Kd.R_keep (IsS46.apart (show IsS46 w _ gb366 l0 t380 t381 from by exact HI366.out) (by exact HO379.out) (by decide)) hk (fun _ h => h.2)) (fun _ h => h.1));have n3_:=Aside0.mk (hb);have n4_:=Aside0.mk (hi);clear HO369;clear HO374;clear HO379;clear HB;clear HI366;have HO369:=n0_;have HO374:=n1_;have HO379:=n2_;have HB:=n3_;have HI366:=n4_;clear n0_ n1_ n2_ n3_ n4_;(try clear hb);(try clear hk);(try clear hi)))
   go_meet
   case rel => exact ⟨_,(!t382),(t383),(t384),(by rfl),H',⟨by omega⟩,⟨by exact HO369.out⟩,⟨by exact HO374.out⟩,⟨by exact HO379.out⟩,⟨by exact HI366.out⟩,⟨by exact HB.out⟩⟩
  ·rw [if_neg c12] at H
   have c12b0 : decide (0 < (t372.length : Int)) = false:=decide_eq_false c12
   have c12b1 : decide (0 < t372.length) = false:=decide_eq_false (by omega)
   clear c12
   (skip)
   have H':=Aside0.mk H
   clear H
   go_wp2
   go_meet
   case rel => exact ⟨_,(false),(t380),(t381),(by rfl),H',⟨by omega⟩,⟨by exact HO369.out⟩,⟨by exact HO374.out⟩,⟨by exact HO379.out⟩,⟨by exact HI366.out⟩,⟨by exact HB.out⟩⟩
 case rest =>
  clear HC5
  try clear c1
  try clear p2
  try clear c5
  try clear c12
  try clear c12b0
  try clear c12b1
  obtain ⟨kq,x30_4,x367001_4,x367002_4,rfl,HA,HJ4,HO_8,HO_9,HO_10,HI366,HB⟩ := hcut
  cases kq with
  | zero => exact absurd HA.out (by simp [spec_DrawMoveToWagon.j0])
  | succ kj4 =>
   have H:=HA.out
   clear HA
   simp only [spec_DrawMoveToWagon.j0] at H
   by_cases c15 : x30_4 = true
   ·subst c15
    have H1 : ((spec_l1Cur_pick.f l0 x367001_4 x367002_4 (t372.length : Int)).bind fun bt385 => (if 0 ≤ bt385.1 then (if bt385.1 < (t372.length : Int) then ((spec_l1Cur_pick.f l0 bt385.2.1 bt385.2.2 (wrap64 ((t367.length : Int) + 2))).bind fun bt389 => (some (t367,t372,t377,(rd_T33 t372 bt385.1).f0,wrap64 (bt389.1 - 1)))) else (none)) else (none))) = some (r1,r2,r3,r4,r5):=by rw [if_pos rfl] at H;exact H
    clear H
    have H:=H1
    clear H1
    replace H:=Option.bind_eq_some_iff.mp H
    obtain ⟨⟨t385,t386,t387⟩,A160,H⟩ := H
    replace H : (if 0 ≤ t385 then (if t385 < (t372.length : Int) then ((spec_l1Cur_pick.f l0 t386 t387 (wrap64 ((t367.length : Int) + 2))).bind fun bt389 => (some (t367,t372,t377,(rd_T33 t372 t385).f0,wrap64 (bt389.1 - 1)))) else (none)) else (none)) = some (r1,r2,r3,r4,r5):=H
    have A16:=Aside0.mk A160
    clear A160
    by_cases c17 : 0 ≤ t385
    ·rw [if_pos c17] at H
     have c17b0 : decide (0 ≤ t385) = true:=decide_eq_true c17
     clear c17
     by_cases c18 : t385 < (t372.length : Int)
     ·rw [if_pos c18] at H
      have c18b0 : decide (t385 < (t372.length : Int)) = true:=decide_eq_true c18
      clear c18
      replace H:=Option.bind_eq_some_iff.mp H
      obtain ⟨⟨t389,t390,t391⟩,A190,H⟩ := H
      replace H : (some (t367,t372,t377,(rd_T33 t372 t385).f0,wrap64 (t389 - 1))) = some (r1,r2,r3,r4,r5):=H
      have A19:=Aside0.mk A190
      clear A190
      simp only [Option.some.injEq,Prod.mk.injEq] at H
      obtain ⟨rfl,rfl,rfl,rfl,rfl⟩ := H
      go_wp2_with (first | ((with_reducible refine gate_callee (f:=21) rfl ?_);refine goesL_ (some 35) rfl rfl Try.func21 (by kernel_rfl) rfl #[.pointer (some ⟨gb366,0,none⟩), .int .i64 (t372.length : Int)] rfl (by (try simp only [List.map_toArray,List.map_cons,List.map_nil]);rfl) ?_;(with_reducible refine (spec_l1Cur_pick.calls gb366 l0 x367001_4 x367002_4 (t372.length : Int) t385 t386 t387 w _ ?side1 ?side2 A16.out).mono ?_);(case side1 => exact HI366.out);(case side2 => exact HB.out);rintro e w20 ⟨rfl,hi,hb,hk⟩;refine ⟨_,rfl, ?_⟩;have n0_:=Aside0.mk (Kd.R_mono (Kd.R_keep (IsS46.apart (show IsS46 w _ gb366 l0 x367001_4 x367002_4 from by exact HI366.out) (by exact HO_8.out) (by decide)) hk (fun _ h => h.2)) (fun _ h => h.1));have n1_:=Aside0.mk (Kd.R_mono (Kd.R_keep (IsS46.apart (show IsS46 w _ gb366 l0 x367001_4 x367002_4 from by exact HI366.out) (by exact HO_9.out) (by decide)) hk (fun _ h => h.2)) (fun _ h => h.1));have n2_:=Aside0.mk (Kd.R_mono (Kd.R_keep (IsS46.apart (show IsS46 w _ gb366 l0 x367001_4 x367002_4 from by exact HI366.out) (by exact HO_10.out) (by decide)) hk (fun _ h => h.2)) (fun _ h => h.1));have n3_:=Aside0.mk (hb);have n4_:=Aside0.mk (hi);clear HO_8;clear HO_9;clear HO_10;clear HB;clear HI366;have HO_8:=n0_;have HO_9:=n1_;have HO_10:=n2_;have HB:=n3_;have HI366:=n4_;clear n0_ n1_ n2_ n3_ n4_;(try clear hb);(try clear hk);(try clear hi);have p388 : 0 ≤ (t385 : Int):=of_decide_eq_true (by (with_reducible assumption));have q388 : t385 < (t372.length : Int):=of_decide_eq_true (by (with_reducible assumption));obtain ⟨ad388,e388,hx388_0,hx388_1,hx388_2,hx388_3,hx388_4⟩ := at_T33 (Kd.R_reads' HO_9.out).2.2 t385 p388 q388;cases e388;replace p388:=eq_true p388;replace q388:=eq_true q388) | ((with_reducible refine gate_callee (f:=21) rfl ?_);refine goesL_ (some 47) rfl rfl Try.func21 (by kernel_rfl) rfl #[.pointer (some ⟨gb366,0,none⟩), .int .i64 (wrap64 ((t367.length : Int) + 2))] rfl (by (try simp only [List.map_toArray,List.map_cons,List.map_nil]);rfl) ?_;(with_reducible refine (spec_l1Cur_pick.calls gb366 l0 t386 t387 (wrap64 ((t367.length : Int) + 2)) t389 t390 t391 w _ ?side1 ?side2 A19.out).mono ?_);(case side1 => exact HI366.out);(case side2 => exact HB.out);rintro e w21 ⟨rfl,hi,hb,hk⟩;refine ⟨_,rfl, ?_⟩;have n0_:=Aside0.mk (Kd.R_mono (Kd.R_keep (IsS46.apart (show IsS46 w _ gb366 l0 t386 t387 from by exact HI366.out) (by exact HO_8.out) (by decide)) hk (fun _ h => h.2)) (fun _ h => h.1));have n1_:=Aside0.mk (Kd.R_mono (Kd.R_keep (IsS46.apart (show IsS46 w _ gb366 l0 t386 t387 from by exact HI366.out) (by exact HO_9.out) (by decide)) hk (fun _ h => h.2)) (fun _ h => h.1));have n2_:=Aside0.mk (Kd.R_mono (Kd.R_keep (IsS46.apart (show IsS46 w _ gb366 l0 t386 t387 from by exact HI366.out) (by exact HO_10.out) (by decide)) hk (fun _ h => h.2)) (fun _ h => h.1));have n3_:=Aside0.mk (hb);have n4_:=Aside0.mk (hi);clear HO_8;clear HO_9;clear HO_10;clear HB;clear HI366;have HO_8:=n0_;have HO_9:=n1_;have HO_10:=n2_;have HB:=n3_;have HI366:=n4_;clear n0_ n1_ n2_ n3_ n4_;(try clear hb);(try clear hk);(try clear hi)))
      refine bodyPost_ret (results_list (rs := [.tmp 2, .tmp 3, .tmp 4, .tmp 5, .tmp 6]) rfl (by simp) (.tmp (.tmp (.tmp (.tmp (.tmp .nil)))))) rfl ?_
      exact ⟨_,_,_,by rfl,by exact HO_8.out,by exact HO_9.out,by exact HO_10.out,by exact HB.out⟩
     ·rw [if_neg c18] at H
      exact absurd H (by simp)
    ·rw [if_neg c17] at H
     exact absurd H (by simp)
   ·replace c15:=Bool.eq_false_iff.mpr c15
    subst c15
    have H1 : ((spec_l1Cur_pick.f l0 x367001_4 x367002_4 (wrap64 ((t367.length : Int) + 2))).bind fun bt392 => (some (t367,t372,t377,(⟨#[65,65,65,48,48,48,48,65]⟩ : ByteArray),wrap64 (bt392.1 - 1)))) = some (r1,r2,r3,r4,r5):=by rw [if_neg (show ¬ (false = true) by decide)] at H;exact H
    clear H
    have H:=H1
    clear H1
    replace H:=Option.bind_eq_some_iff.mp H
    obtain ⟨⟨t392,t393,t394⟩,A220,H⟩ := H
    replace H : (some (t367,t372,t377,(⟨#[65,65,65,48,48,48,48,65]⟩ : ByteArray),wrap64 (t392 - 1))) = some (r1,r2,r3,r4,r5):=H
    have A22:=Aside0.mk A220
    clear A220
    simp only [Option.some.injEq,Prod.mk.injEq] at H
    obtain ⟨rfl,rfl,rfl,rfl,rfl⟩ := H
    go_wp2_with (((with_reducible refine gate_callee (f:=21) rfl ?_);refine goesL_ (some 47) rfl rfl Try.func21 (by kernel_rfl) rfl #[.pointer (some ⟨gb366,0,none⟩), .int .i64 (wrap64 ((t367.length : Int) + 2))] rfl (by (try simp only [List.map_toArray,List.map_cons,List.map_nil]);rfl) ?_;(with_reducible refine (spec_l1Cur_pick.calls gb366 l0 x367001_4 x367002_4 (wrap64 ((t367.length : Int) + 2)) t392 t393 t394 w _ ?side1 ?side2 A22.out).mono ?_);(case side1 => exact HI366.out);(case side2 => exact HB.out);rintro e w23 ⟨rfl,hi,hb,hk⟩;refine ⟨_,rfl, ?_⟩;have n0_:=Aside0.mk (Kd.R_mono (Kd.R_keep (IsS46.apart (show IsS46 w _ gb366 l0 x367001_4 x367002_4 from by exact HI366.out) (by exact HO_8.out) (by decide)) hk (fun _ h => h.2)) (fun _ h => h.1));have n1_:=Aside0.mk (Kd.R_mono (Kd.R_keep (IsS46.apart (show IsS46 w _ gb366 l0 x367001_4 x367002_4 from by exact HI366.out) (by exact HO_9.out) (by decide)) hk (fun _ h => h.2)) (fun _ h => h.1));have n2_:=Aside0.mk (Kd.R_mono (Kd.R_keep (IsS46.apart (show IsS46 w _ gb366 l0 x367001_4 x367002_4 from by exact HI366.out) (by exact HO_10.out) (by decide)) hk (fun _ h => h.2)) (fun _ h => h.1));have n3_:=Aside0.mk (hb);have n4_:=Aside0.mk (hi);clear HO_8;clear HO_9;clear HO_10;clear HB;clear HI366;have HO_8:=n0_;have HO_9:=n1_;have HO_10:=n2_;have HB:=n3_;have HI366:=n4_;clear n0_ n1_ n2_ n3_ n4_;(try clear hb);(try clear hk);(try clear hi)))
    refine bodyPost_ret (results_list (rs := [.tmp 2, .tmp 3, .tmp 4, .tmp 5, .tmp 6]) rfl (by simp) (.tmp (.tmp (.tmp (.tmp (.tmp .nil)))))) rfl ?_
    exact ⟨_,_,_,by rfl,by exact HO_8.out,by exact HO_9.out,by exact HO_10.out,by exact HB.out⟩

/-! ### impl_within: function 31 -/
def impl_within.f (a0 : Int) (a1 : Int) (a2 : Int) : Option (Bool):=if a0 ≥ a1 then (some (decide (a0 ≤ a2))) else (some false)
set_option maxHeartbeats 8000000 in
set_option maxRecDepth 100000 in
theorem impl_within.calls (a0 : Int) (a1 : Int) (a2 : Int) (r : Bool) (w : World) (h : impl_within.f a0 a1 a2 = some r) :
  Calls Try.prog 31 #[.int .i64 a0, .int .i64 a1, .int .i64 a2] w fun e w' => e = .returned (.bool r) ∧ Drawn0 w w':=by
 have H : (if a0 ≥ a1 then (some (decide (a0 ≤ a2))) else (some false)) = some r:=h
 clear h
 by_cases c4 : a0 ≥ a1
 ·rw [if_pos c4] at H
  have c4b0 : decide (a1 ≤ a0) = true:=decide_eq_true c4
  clear c4
  obtain rfl:=Option.some.inj H
  go_enter Try.func31,Try.ntmps31
  go_wp2
  go_ret
  exact ⟨by rfl,by repeat (exact Drawn0.refl _)⟩
 ·rw [if_neg c4] at H
  have c4b0 : decide (a1 ≤ a0) = false:=decide_eq_false c4
  clear c4
  obtain rfl:=Option.some.inj H
  go_enter Try.func31,Try.ntmps31
  go_wp2
  go_ret
  exact ⟨by rfl,by repeat (exact Drawn0.refl _)⟩

/-! ### impl_IsValidTrain_1: function 47 -/
def impl_IsValidTrain_1.f (a0_0 : Int) (a0_1 : Int) : Option (Bool):=(impl_within.f a0_0 1 3).bind fun t396 => (if t396 = true then ((impl_within.f a0_1 1 100000).bind fun t397 => (some (!t397))) else (some true))
set_option maxHeartbeats 8000000 in
set_option maxRecDepth 100000 in
theorem impl_IsValidTrain_1.calls (a0_0 : Int) (a0_1 : Int) (r : Bool) (w : World) (h : impl_IsValidTrain_1.f a0_0 a0_1 = some r) :
  Calls Try.prog 47 #[.agg #[.int .i64 a0_0, .int .i64 a0_1]] w fun e w' => e = .returned (.bool r) ∧ Below w.heap.size w w':=by
 have hu60:=Try.underlying60
 have HB:=Aside0.mk (Below.refl w.heap.size w)
 have H : ((impl_within.f a0_0 1 3).bind fun t396 => (if t396 = true then ((impl_within.f a0_1 1 100000).bind fun t397 => (some (!t397))) else (some true))) = some r:=h
 clear h
 replace H:=Option.bind_eq_some_iff.mp H
 obtain ⟨t396,A20,H⟩ := H
 replace H : (if t396 = true then ((impl_within.f a0_1 1 100000).bind fun t397 => (some (!t397))) else (some true)) = some r:=H
 have A2:=Aside0.mk A20
 clear A20
 by_cases c3 : t396 = true
 ·subst c3
  have H1 : ((impl_within.f a0_1 1 100000).bind fun t397 => (some (!t397))) = some r:=by rw [if_pos rfl] at H;exact H
  clear H
  have H:=H1
  clear H1
  replace H:=Option.bind_eq_some_iff.mp H
  obtain ⟨t397,A40,H⟩ := H
  replace H : (some (!t397)) = some r:=H
  have A4:=Aside0.mk A40
  clear A40
  obtain rfl:=Option.some.inj H
  go_enter Try.func47,Try.ntmps47
  go_wp2_with (first | ((with_reducible refine gate_dst (N:=1) rfl ?_);refine box_event ?hg (N:=1) ?hd (cs:=#[.int .i64 a0_0, .int .i64 a0_1]) (t:=60) ?hr ?_;(case hd => rfl);(case hg => rfl);(case hr => (go_simp;done));intro gb395 hg w5 hbox hb;have n0_:=Aside0.mk (below_step (by exact HB.out) hb);have n1_:=Aside0.mk (hbox);have n2_:=Aside0.mk ((by rw [hg];exact (below_size (by exact HB.out)) : w.heap.size ≤ gb395));have n3_:=Aside0.mk ((by rw [hg];exact (below_size (by exact HB.out)) : w.heap.size ≤ gb395));clear HB;have HB:=n0_;have BK395:=n1_;have GW395:=n2_;have GE395:=n3_;clear n0_ n1_ n2_ n3_;clear hb hbox hg;have hcz6_0 : w5.cell? ⟨gb395,0,none⟩ = some (.int .i64 a0_0):=(blk_cell BK395.out 0).trans rfl;have hcz6_1 : w5.cell? ⟨gb395,1,none⟩ = some (.int .i64 a0_1):=(blk_cell BK395.out 1).trans rfl;have hfz6_0:=blk_frozen BK395.out 0;have hfz6_1:=blk_frozen BK395.out 1) | ((with_reducible refine gate_callee (f:=31) rfl ?_);refine goesL_ (some 5) rfl rfl Try.func31 (by kernel_rfl) rfl #[.int .i64 a0_0, .int .i64 1, .int .i64 3] rfl (by (try simp only [List.map_toArray,List.map_cons,List.map_nil]);rfl) ?_;(with_reducible refine (impl_within.calls a0_0 1 3 true _ A2.out).mono ?_);rintro e w' ⟨rfl,⟨nd,rfl⟩⟩;refine ⟨_,rfl, ?_⟩) | (go_at_call 31;(with_reducible refine (impl_within.calls a0_1 1 100000 t397 _ A4.out).mono ?_);rintro e w' ⟨rfl,⟨nd,rfl⟩⟩))
  go_ret
  exact ⟨by rfl,by repeat ((with_reducible first | exact HB.out | apply pw_below_drewN))⟩
 ·replace c3:=Bool.eq_false_iff.mpr c3
  subst c3
  have H1 : (some true) = some r:=by rw [if_neg (show ¬ (false = true) by decide)] at H;exact H
  clear H
  have H:=H1
  clear H1
  obtain rfl:=Option.some.inj H
  go_enter Try.func47,Try.ntmps47
  go_wp2_with (first | ((with_reducible refine gate_dst (N:=1) rfl ?_);refine box_event ?hg (N:=1) ?hd (cs:=#[.int .i64 a0_0, .int .i64 a0_1]) (t:=60) ?hr ?_;(case hd => rfl);(case hg => rfl);(case hr => (go_simp;done));intro gb395 hg w7 hbox hb;have n0_:=Aside0.mk (below_step (by exact HB.out) hb);have n1_:=Aside0.mk (hbox);have n2_:=Aside0.mk ((by rw [hg];exact (below_size (by exact HB.out)) : w.heap.size ≤ gb395));have n3_:=Aside0.mk ((by rw [hg];exact (below_size (by exact HB.out)) : w.heap.size ≤ gb395));clear HB;have HB:=n0_;have BK395:=n1_;have GW395:=n2_;have GE395:=n3_;clear n0_ n1_ n2_ n3_;clear hb hbox hg;have hcz8_0 : w7.cell? ⟨gb395,0,none⟩ = some (.int .i64 a0_0):=(blk_cell BK395.out 0).trans rfl;have hcz8_1 : w7.cell? ⟨gb395,1,none⟩ = some (.int .i64 a0_1):=(blk_cell BK395.out 1).trans rfl;have hfz8_0:=blk_frozen BK395.out 0;have hfz8_1:=blk_frozen BK395.out 1) | ((with_reducible refine gate_callee (f:=31) rfl ?_);refine goesL_ (some 5) rfl rfl Try.func31 (by kernel_rfl) rfl #[.int .i64 a0_0, .int .i64 1, .int .i64 3] rfl (by (try simp only [List.map_toArray,List.map_cons,List.map_nil]);rfl) ?_;(with_reducible refine (impl_within.calls a0_0 1 3 false _ A2.out).mono ?_);rintro e w' ⟨rfl,⟨nd,rfl⟩⟩;refine ⟨_,rfl, ?_⟩))
  go_ret
  exact ⟨by rfl,by repeat ((with_reducible first | exact HB.out | apply pw_below_drewN))⟩

/-! ### slices_IndexFunc_impl_Wagon: function 56 -/
def slices_IndexFunc_impl_Wagon.l0 : Nat → List (S60) → Int → Int → Option (Int)
 | 0,_,_,_ => none
 | k + 1,x0,x7,x8 => if x8 < x7 then (if 0 ≤ x8 then (if x8 < (x0.length : Int) then ((impl_IsValidTrain_1.f ((rd_T60 x0 x8).f0) ((rd_T60 x0 x8).f1)).bind fun t399 => (if t399 = true then (some x8) else (slices_IndexFunc_impl_Wagon.l0 k x0 x7 (wrap64 (x8 + 1))))) else (none)) else (none)) else (some (-1))
def slices_IndexFunc_impl_Wagon.f (k : Nat) (l0 : List (S60))  : Option (Int):=slices_IndexFunc_impl_Wagon.l0 k l0 (l0.length : Int) 0
theorem slices_IndexFunc_impl_Wagon.mono_l : ∀ k,(∀ y0 y1 y2,LeO (slices_IndexFunc_impl_Wagon.l0 k y0 y1 y2) (slices_IndexFunc_impl_Wagon.l0 (k + 1) y0 y1 y2))
 | 0 => fun _ _ _ r h => by simp [slices_IndexFunc_impl_Wagon.l0] at h
 | k + 1 => by
  have ih0:=slices_IndexFunc_impl_Wagon.mono_l k
  ·intro y0 y1 y2
   unfold slices_IndexFunc_impl_Wagon.l0
   repeat' first
   | (with_reducible exact ih0 _ _ _)
   | (with_reducible exact LeO.refl _)
   | (with_reducible exact LeO.none _)
   | (with_reducible refine LeO.ite ?_ ?_)
   | (with_reducible refine LeO.bind ?_ (fun _ => ?_))
   | exact ih0 _ _ _
   | exact LeO.none _
   | refine LeO.ite ?_ ?_
   | refine LeO.bind ?_ (fun _ => ?_)
theorem slices_IndexFunc_impl_Wagon.mono : ∀ a0 k,LeO (slices_IndexFunc_impl_Wagon.f k a0) (slices_IndexFunc_impl_Wagon.f (k + 1) a0):=by
 intro a0 k
 have ih0:=slices_IndexFunc_impl_Wagon.mono_l k
 unfold slices_IndexFunc_impl_Wagon.f
 repeat' first
   | (with_reducible exact ih0 _ _ _)
   | (with_reducible exact LeO.refl _)
   | (with_reducible exact LeO.none _)
   | (with_reducible refine LeO.ite ?_ ?_)
   | (with_reducible refine LeO.bind ?_ (fun _ => ?_))
   | exact ih0 _ _ _
   | exact LeO.none _
   | refine LeO.ite ?_ ?_
   | refine LeO.bind ?_ (fun _ => ?_)
set_option maxHeartbeats 8000000 in
set_option maxRecDepth 100000 in
theorem slices_IndexFunc_impl_Wagon.calls (k : Nat) (A0 : Option Addr) (c0 : Nat) (l0 : List (S60))  (r : Int) (w : World) (hr0 : Kd.C k60 w A0 l0.length l0) (hc0 : l0.length ≤ c0) (h : slices_IndexFunc_impl_Wagon.f k l0 = some r) :
  Calls Try.prog 56 #[.slice A0 l0.length c0,(.func (.func 47) #[] #[])] w fun e w' => e = .returned (.int .i64 r) ∧ Below w.heap.size w w':=by
 have hu60:=Try.underlying60
 have HR0:=Aside0.mk hr0
 have HC0:=Aside0.mk hc0
 clear hr0 hc0
 have HB:=Aside0.mk (Below.refl w.heap.size w)
 have H : (slices_IndexFunc_impl_Wagon.l0 k l0 (l0.length : Int) 0) = some r:=h
 clear h
 have H':=Aside0.mk H
 clear H
 go_enter Try.func56,Try.ntmps56
 go_wp2
 go_loopg [8] k (fun kq v8 w' => ∃ (x8_1 : Int),v8 = .int .i64 x8_1 ∧ Aside0 (slices_IndexFunc_impl_Wagon.l0 kq l0 (l0.length : Int) x8_1 = some r) ∧ Aside0 (kq ≤ k) ∧ Aside0 (Below w.heap.size w w'))
 case atStart => exact ⟨(0),(by rfl),H',⟨Nat.le_refl _⟩,⟨by exact HB.out⟩⟩
 case round =>
  clear H'
  try clear p2
  obtain ⟨x8_1,rfl,HA,HK1,HB⟩ := hrel
  cases gk with
  | zero => exact absurd HA.out (by simp [slices_IndexFunc_impl_Wagon.l0])
  | succ k1 =>
   have H:=HA.out
   clear HA
   simp only [slices_IndexFunc_impl_Wagon.l0] at H
   by_cases c3 : x8_1 < (l0.length : Int)
   ·rw [if_pos c3] at H
    have c3b0 : decide (x8_1 < (l0.length : Int)) = true:=decide_eq_true c3
    clear c3
    by_cases c4 : 0 ≤ x8_1
    ·rw [if_pos c4] at H
     have c4b0 : decide (0 ≤ x8_1) = true:=decide_eq_true c4
     clear c4
     by_cases c5 : x8_1 < (l0.length : Int)
     ·rw [if_pos c5] at H
      have c5b0 : decide (x8_1 < (l0.length : Int)) = true:=decide_eq_true c5
      clear c5
      replace H:=Option.bind_eq_some_iff.mp H
      obtain ⟨t399,A60,H⟩ := H
      replace H : (if t399 = true then (some x8_1) else (slices_IndexFunc_impl_Wagon.l0 k1 l0 (l0.length : Int) (wrap64 (x8_1 + 1)))) = some r:=H
      have A6:=Aside0.mk A60
      clear A60
      by_cases c7 : t399 = true
      ·subst c7
       have H1 : (some x8_1) = some r:=by rw [if_pos rfl] at H;exact H
       clear H
       have H:=H1
       clear H1
       obtain rfl:=Option.some.inj H
       have p398 : 0 ≤ (x8_1 : Int):=of_decide_eq_true (by (with_reducible assumption))
       have q398 : x8_1 < (l0.length : Int):=of_decide_eq_true (by (with_reducible assumption))
       obtain ⟨ad398,e398,hx398_0,hx398_1⟩ := at_T60 HR0.out x8_1 p398 q398
       cases e398
       replace hx398_0:=(HB.out.cell (World.block_lt_of_cell? w _ hx398_0)).trans hx398_0
       replace hx398_1:=(HB.out.cell (World.block_lt_of_cell? w _ hx398_1)).trans hx398_1
       replace p398:=eq_true p398
       replace q398:=eq_true q398
       go_wp2_with (((with_reducible refine gateV_ (x := .tmp 11) rfl ?_);refine goesV_ (some 16) rfl rfl Try.func47 (by kernel_rfl) rfl #[.agg #[.int .i64 ((rd_T60 l0 x8_1).f0), .int .i64 ((rd_T60 l0 x8_1).f1)]] rfl rfl (by (try simp only [List.map_toArray,List.map_cons,List.map_nil]);rfl) ?_;(with_reducible refine (impl_IsValidTrain_1.calls ((rd_T60 l0 x8_1).f0) ((rd_T60 l0 x8_1).f1) true _ A6.out).mono ?_);rintro e w8 ⟨rfl,hb⟩;refine ⟨_,rfl, ?_⟩;have n0_:=Aside0.mk (below_step (by exact HB.out) hb);clear HB;have HB:=n0_;clear n0_;(try clear hb)))
       go_ret
       exact ⟨by rfl,by exact HB.out⟩
      ·replace c7:=Bool.eq_false_iff.mpr c7
       subst c7
       have H1 : (slices_IndexFunc_impl_Wagon.l0 k1 l0 (l0.length : Int) (wrap64 (x8_1 + 1))) = some r:=by rw [if_neg (show ¬ (false = true) by decide)] at H;exact H
       clear H
       have H:=H1
       clear H1
       have H':=Aside0.mk H
       clear H
       have p398 : 0 ≤ (x8_1 : Int):=of_decide_eq_true (by (with_reducible assumption))
       have q398 : x8_1 < (l0.length : Int):=of_decide_eq_true (by (with_reducible assumption))
       obtain ⟨ad398,e398,hx398_0,hx398_1⟩ := at_T60 HR0.out x8_1 p398 q398
       cases e398
       replace hx398_0:=(HB.out.cell (World.block_lt_of_cell? w _ hx398_0)).trans hx398_0
       replace hx398_1:=(HB.out.cell (World.block_lt_of_cell? w _ hx398_1)).trans hx398_1
       replace p398:=eq_true p398
       replace q398:=eq_true q398
       go_wp2_with (((with_reducible refine gateV_ (x := .tmp 11) rfl ?_);refine goesV_ (some 16) rfl rfl Try.func47 (by kernel_rfl) rfl #[.agg #[.int .i64 ((rd_T60 l0 x8_1).f0), .int .i64 ((rd_T60 l0 x8_1).f1)]] rfl rfl (by (try simp only [List.map_toArray,List.map_cons,List.map_nil]);rfl) ?_;(with_reducible refine (impl_IsValidTrain_1.calls ((rd_T60 l0 x8_1).f0) ((rd_T60 l0 x8_1).f1) false _ A6.out).mono ?_);rintro e w9 ⟨rfl,hb⟩;refine ⟨_,rfl, ?_⟩;have n0_:=Aside0.mk (below_step (by exact HB.out) hb);clear HB;have HB:=n0_;clear n0_;(try clear hb)))
       go_roundg k1
       case measure => have:=HK1.out;omega
       case rel => exact ⟨(wrap64 (x8_1 + 1)),(by rfl),H',⟨by have:=HK1.out;omega⟩,⟨by exact HB.out⟩⟩
     ·rw [if_neg c5] at H
      exact absurd H (by simp)
    ·rw [if_neg c4] at H
     exact absurd H (by simp)
   ·rw [if_neg c3] at H
    have c3b0 : decide (x8_1 < (l0.length : Int)) = false:=decide_eq_false c3
    clear c3
    obtain rfl:=Option.some.inj H
    go_wp2
    go_ret
    exact ⟨by rfl,by exact HB.out⟩

end Go.Proofs.Ytempmebpbbbkmaa.PFnWagons
