-- Written by a program of this session, over the kit's print (wip/xprint.py)
import Derived.Test.YthbibjfnmljpkaaPFnTrainLoadingx0
namespace Go.Proofs.Ythbibjfnmljpkaa.PFnTrainLoading
open Go.RowKit Go.Proofs.YthbibjfnmljpkaaW.PrintWords Go.Proofs.YthbibjfnmljpkaaW.PrintLast Go.Proofs.YthbibjfnmljpkaaW.PrintMore
attribute [local go_sem] max2_int min2_int max_two min_two max_three min_three max_four min_four   -- for this text's walks alone
set_option linter.unusedVariables false
set_option linter.unusedSimpArgs false

/-! ### impl_usage: function 54 -/
def impl_usage.l0 : Nat → List (S64) → List Int → List Int → List Int → Int → Int → Option (List Int × List Int)
 | 0,_,_,_,_,_,_ => none
 | k + 1,x1,x8,x9,x18,x19,x20 => if x20 < x19 then (if 0 ≤ x20 then (if x20 < (x18.length : Int) then (if (rd x18 x20) ≥ 0 then (if 0 ≤ (rd x18 x20) then (if (rd x18 x20) < (x8.length : Int) then (if x20 < (x1.length : Int) then (if (rd x18 x20) < (x9.length : Int) then (impl_usage.l0 k x1 (x8.set ((rd x18 x20) : Int).toNat (wrap64 ((rd x8 (rd x18 x20)) + ((rd_T64 x1 x20).f1)))) (x9.set ((rd x18 x20) : Int).toNat (wrap64 ((rd x9 (rd x18 x20)) + ((rd_T64 x1 x20).f2)))) x18 x19 (wrap64 (x20 + 1))) else (none)) else (none)) else (none)) else (none)) else (impl_usage.l0 k x1 x8 x9 x18 x19 (wrap64 (x20 + 1)))) else (none)) else (none)) else (some (x8,x9))
def impl_usage.f (k : Nat) (l0 : List (S54)) (l1 : List (S64)) (l2 : List Int) : Option (List Int × List Int):=if 0 ≤ (l0.length : Int) then (if ((l0.length : Int) : Int).toNat ≤ 35184372088832 then (impl_usage.l0 k l1 (List.replicate ((l0.length : Int) : Int).toNat 0) (List.replicate ((l0.length : Int) : Int).toNat 0) l2 (l2.length : Int) 0) else (none)) else (none)
theorem impl_usage.mono_l : ∀ k,(∀ y0 y1 y2 y3 y4 y5,LeO (impl_usage.l0 k y0 y1 y2 y3 y4 y5) (impl_usage.l0 (k + 1) y0 y1 y2 y3 y4 y5))
 | 0 => fun _ _ _ _ _ _ r h => by simp [impl_usage.l0] at h
 | k + 1 => by
  have ih0:=impl_usage.mono_l k
  ·intro y0 y1 y2 y3 y4 y5
   unfold impl_usage.l0
   repeat' first
   | (with_reducible exact ih0 _ _ _ _ _ _)
   | (with_reducible exact LeO.refl _)
   | (with_reducible exact LeO.none _)
   | (with_reducible refine LeO.ite ?_ ?_)
   | (with_reducible refine LeO.bind ?_ (fun _ => ?_))
   | exact ih0 _ _ _ _ _ _
   | exact LeO.none _
   | refine LeO.ite ?_ ?_
   | refine LeO.bind ?_ (fun _ => ?_)
theorem impl_usage.mono : ∀ a0 a1 a2 k,LeO (impl_usage.f k a0 a1 a2) (impl_usage.f (k + 1) a0 a1 a2):=by
 intro a0 a1 a2 k;have ih0:=impl_usage.mono_l k
 unfold impl_usage.f
 repeat' first
   | (with_reducible exact ih0 _ _ _ _ _ _)
   | (with_reducible exact LeO.refl _)
   | (with_reducible exact LeO.none _)
   | (with_reducible refine LeO.ite ?_ ?_)
   | (with_reducible refine LeO.bind ?_ (fun _ => ?_))
   | exact ih0 _ _ _ _ _ _
   | exact LeO.none _
   | refine LeO.ite ?_ ?_
   | refine LeO.bind ?_ (fun _ => ?_)
def impl_usage.T1 : Bool × List (List Nat × List Nat):=(true,[([],[]),([0],[0]),([1,1],[1]),([],[]),([3],[3]),([4,4],[4]),([2,0,1,2],[2]),([5,6,0,1,2,3,4,5,6],[5])])
def impl_usage.B1 : List Nat := [0,1,3,0,8,24,7,127]
theorem impl_usage.tab1 : rtab .any (opsOf Try.f54 1) = impl_usage.T1:=by kernel_rfl
theorem impl_usage.bits1 : waitsOk impl_usage.T1.2 impl_usage.B1 = true:=by kernel_rfl
def impl_usage.T6 : Bool × List (List Nat × List Nat):=(true,[([],[]),([],[]),([0,1],[0,1]),([2],[2]),([],[]),([],[]),([4,5],[4,5]),([6],[6]),([7],[7]),([3,8],[3,8]),([0,1,0,1,2,3,4,5,6,7,8,9],[0,1]),([10,9,0,1,2,3,4,5,6,7,8,9],[9,10])])
def impl_usage.B6 : List Nat := [0,0,3,7,0,0,48,112,240,511,1023,2047]
theorem impl_usage.tab6 : rtab .any (opsOf Try.f54 6) = impl_usage.T6:=by kernel_rfl
theorem impl_usage.bits6 : waitsOk impl_usage.T6.2 impl_usage.B6 = true:=by kernel_rfl
def impl_usage.T7 : Bool × List (List Nat × List Nat):=(true,[([],[]),([],[]),([0,1],[0,1]),([2],[2]),([],[]),([],[]),([4,5],[4,5]),([6],[6]),([7],[7]),([3,8],[3,8]),([0,1,0,1,2,3,4,5,6,7,8,9],[0,1]),([10,9,0,1,2,3,4,5,6,7,8,9],[9,10])])
def impl_usage.B7 : List Nat := [0,0,3,7,0,0,48,112,240,511,1023,2047]
theorem impl_usage.tab7 : rtab .any (opsOf Try.f54 7) = impl_usage.T7:=by kernel_rfl
theorem impl_usage.bits7 : waitsOk impl_usage.T7.2 impl_usage.B7 = true:=by kernel_rfl
set_option maxHeartbeats 8000000 in
set_option maxRecDepth 100000 in
theorem impl_usage.calls (k : Nat) (A0 : Option Addr) (c0 : Nat) (l0 : List (S54)) (A1 : Option Addr) (c1 : Nat) (l1 : List (S64)) (A2 : Option Addr) (c2 : Nat) (l2 : List Int) (r1 : List Int) (r2 : List Int) (w : World) (hr0 : Kd.C k54 w A0 l0.length l0) (hc0 : l0.length ≤ c0) (hr1 : Kd.C k64 w A1 l1.length l1) (hc1 : l1.length ≤ c1) (hr2 : Kd.C (Kd.int .i64) w A2 l2.length l2) (hc2 : l2.length ≤ c2) (h : impl_usage.f k l0 l1 l2 = some (r1,r2)) :
  Calls Try.prog 54 #[.slice A0 l0.length c0, .slice A1 l1.length c1, .slice A2 l2.length c2] w fun e w' => ∃ v0_ v1_ : Value,e = .returned (.tuple #[v0_,v1_]) ∧ Kd.R (Kd.int .i64) 3 w' w.heap.size (fun k_ => some k_ ≠ (v1_ : Value).ownBlock) v0_ r1 ∧ Kd.R (Kd.int .i64) 3 w' w.heap.size (fun k_ => some k_ ≠ (v0_ : Value).ownBlock) v1_ r2 ∧ Below w.heap.size w w':=by
 have HR0:=am_ hr0;have HC0:=am_ hc0;clear hr0 hc0;have HR1:=am_ hr1;have HC1:=am_ hc1;clear hr1 hc1;have HR2:=am_ hr2;have HC2:=am_ hc2;clear hr2 hc2;have HB:=am_ (Below.refl w.heap.size w);have H : (if 0 ≤ (l0.length : Int) then (if ((l0.length : Int) : Int).toNat ≤ 35184372088832 then (impl_usage.l0 k l1 (List.replicate ((l0.length : Int) : Int).toNat 0) (List.replicate ((l0.length : Int) : Int).toNat 0) l2 (l2.length : Int) 0) else (none)) else (none)) = some (r1,r2):=h;clear h
 by_cases c4 : 0 ≤ (l0.length : Int)
 ·rw [if_pos c4] at H;have c4b0:=eq_true c4;have c4b1 : decide (0 ≤ (l0.length : Int)) = true:=decide_eq_true c4;clear c4
  by_cases c5 : ((l0.length : Int) : Int).toNat ≤ 35184372088832
  ·rw [if_pos c5] at H;have c5b0:=eq_true c5;have c5b1 : decide (((l0.length : Int) : Int).toNat ≤ 35184372088832) = true:=decide_eq_true c5;clear c5;obtain ⟨y183,hy183⟩ : ∃ y_ : List Int,y_ = (List.replicate ((l0.length : Int) : Int).toNat 0):=⟨_,rfl⟩
   replace H : (impl_usage.l0 k l1 y183 (List.replicate ((l0.length : Int) : Int).toNat 0) l2 (l2.length : Int) 0) = some (r1,r2):=by (rw [hy183];with_reducible exact H)
   have Ny183:=am_ hy183;clear hy183;obtain ⟨y186,hy186⟩ : ∃ y_ : List Int,y_ = (List.replicate ((l0.length : Int) : Int).toNat 0):=⟨_,rfl⟩
   replace H : (impl_usage.l0 k l1 y183 y186 l2 (l2.length : Int) 0) = some (r1,r2):=by (rw [hy186];with_reducible exact H)
   have Ny186:=am_ hy186;clear hy186;have H':=am_ H;clear H
   go_enter Try.func54,Try.ntmps54
   try go_wp2
   have n0_:=am_ (below_drew1 HB.out);clear HB;have HB:=n0_;clear n0_
   refine start_ (n:=8) (S:=fun w' => True) (ds := []) #[false,false,false,false,false,false,false,false] (by kernel_rfl) rfl rfl trivial (fun hHeld => ?_);refine with_tabW impl_usage.tab1 impl_usage.bits1 (fun HT_ HW_ => ?_)
   generalize w.drew = w6 at HB hHeld ⊢;refine pure_ (i:=0) (N:=some 12) (v:=?_) (a':=?_) #[true,false,false,false,false,false,false,false] rfl rfl (any_of HT_.out (by kernel_rfl)) (fun _ _ _ h => h) (Or.inl ⟨by rfl, ?_⟩) ?_ ?_
   rotate_left
   ·intro w'
    go_simp
    with_reducible rfl
   rotate_left
   ·simp only [Act.put,sA_,s0_,s1_,i64_w,i32_w]
    rfl
   refine pure_ (i:=1) (N:=some 13) (v:=?_) (a':=?_) #[true,true,false,false,false,false,false,false] rfl rfl (any_of HT_.out (by kernel_rfl)) (fun _ _ _ h => h) (Or.inl ⟨by rfl, ?_⟩) ?_ ?_
   rotate_left
   ·intro w'
    go_simp
    with_reducible rfl
   rotate_left
   ·simp only [Act.put,sA_,s0_,s1_,i64_w,i32_w]
    rfl
   refine pure_ (i:=3) (N:=some 15) (v:=?_) (a':=?_) #[true,true,false,true,false,false,false,false] rfl rfl (any_of HT_.out (by kernel_rfl)) (fun _ _ _ h => h) (Or.inl ⟨by rfl, ?_⟩) ?_ ?_
   rotate_left
   ·intro w'
    go_simp
    with_reducible rfl
   rotate_left
   ·simp only [Act.put,sA_,s0_,s1_,i64_w,i32_w]
    rfl
   refine pure_ (i:=4) (N:=some 16) (v:=?_) (a':=?_) #[true,true,false,true,true,false,false,false] rfl rfl (any_of HT_.out (by kernel_rfl)) (fun _ _ _ h => h) (Or.inl ⟨by rfl, ?_⟩) ?_ ?_
   rotate_left
   ·intro w'
    go_simp
    with_reducible rfl
   rotate_left
   ·simp only [Act.put,sA_,s0_,s1_,i64_w,i32_w]
    rfl
   refine join_ (σ:=Value × Value) 1 #[true,true,true,true,true,true,true,false] (fun s_ => [(14,s_.1),(17,s_.2),(8,s_.1)]) (fun s_ w' => (Kd.R (Kd.int .i64) 3 w' w.heap.size (fun k_ => some k_ ≠ (s_.2 : Value).ownBlock) s_.1 y183) ∧ (Kd.R (Kd.int .i64) 3 w' w.heap.size (fun k_ => some k_ ≠ (s_.1 : Value).ownBlock) s_.2 y186) ∧ (Below w.heap.size w w')) ?_ ?_
   rotate_left
   ·intro hCont;refine two_ (i:=2) (j:=5) (Ni:=some 14) (Nj:=some 17) #[true,true,true,true,true,false,false,false] #[true,true,false,true,true,true,false,false] rfl rfl rfl rfl (two_of HT_.out (by kernel_rfl)) (by decide) (by decide) (fun K hK => ?_) (fun K hK => ?_)
    ·skip
     refine Kd.R_make_step (Kd.int .i64) _ 3 (by rfl) (N:=14) rfl 39 _ _ rfl (l0.length : Int) rfl rfl Try.underlying39 (.int .i64 0) 8 info3 rfl (by decide) (by omega) 0 (ok:=fun _ => True) (okp:=fun _ => True) rfl (fun _ hk => hk) trivial (of_decide_eq_true (by (with_reducible assumption))) (Nat.le_trans (Nat.mul_le_mul_right _ (of_decide_eq_true (by (with_reducible assumption)) : (l0.length : Int).toNat ≤ 35184372088832)) (by omega)) (Below.refl _ _) (Nat.le_refl _) ?_;intro v184 w7 ho8 hb hg_ hnew_;clear hg_ hnew_
     (rw [← Ny183.out] at ho8)
     have n0_:=am_ (Kd.R_lower ho8 (below_size (by exact HB.out)));have n1_:=am_ (below_step (by exact HB.out) hb);clear HB;have HO185:=n0_;have HB:=n1_;clear n0_ n1_;clear hb ho8;refine hK.out _ _ trivial (fun hHeld => ?_);clear hK K;refine norm_ (a':=?_) ?_ ?_
     rotate_left
     ·show Act.put _ (some 14) _ = _
      simp only [Act.put,sA_,s0_,s1_,i64_w,i32_w]
      rfl
     refine pure_ (i:=6) (N:=some 8) (v:=?_) (a':=?_) #[true,true,true,true,true,false,true,false] rfl rfl (any_of HT_.out (by kernel_rfl)) (fun _ _ _ h => h) (Or.inl ⟨by rfl, ?_⟩) ?_ ?_
     rotate_left
     ·intro w'
      go_simp
      with_reducible rfl
     rotate_left
     ·simp only [Act.put,sA_,s0_,s1_,i64_w,i32_w]
      rfl
     refine one_ (i:=5) (N:=some 17) #[true,true,true,true,true,true,true,false] rfl rfl (one_of HT_.out (by kernel_rfl)) (by decide) (fun K hK => ?_);refine Kd.R_make_step (Kd.int .i64) _ 3 (by rfl) (N:=17) rfl 39 _ _ rfl (l0.length : Int) rfl rfl Try.underlying39 (.int .i64 0) 8 info3 rfl (by decide) (by omega) 0 (ok:=fun _ => True) (okp:=fun _ => True) rfl (fun _ hk => hk) trivial (of_decide_eq_true (by (with_reducible assumption))) (Nat.le_trans (Nat.mul_le_mul_right _ (of_decide_eq_true (by (with_reducible assumption)) : (l0.length : Int).toNat ≤ 35184372088832)) (by omega)) (Below.refl _ _) (Nat.le_refl _) ?_;intro v187 w9 ho10 hb hg_ hnew_;clear hg_ hnew_
     (rw [← Ny186.out] at ho10)
     have n0_:=am_ (Kd.R_elder' (by exact HO185.out) (Kd.R_base ho10) hb);have n1_:=am_ (Kd.R_lower (Kd.R_new' ho10 (Kd.R_lt (by exact HO185.out))) (below_size (by exact HB.out)));have n2_:=am_ (below_step (by exact HB.out) hb);clear HO185;clear HB;have HO185:=n0_;have HO188:=n1_;have HB:=n2_;clear n0_ n1_ n2_;clear hb ho10;refine hK.out _ _ trivial (fun hHeld => ?_);clear hK K;refine norm_ (a':=?_) ?_ ?_
     rotate_left
     ·show Act.put _ (some 17) _ = _
      simp only [Act.put,sA_,s0_,s1_,i64_w,i32_w]
      rfl
     exact norm_ (by simp only [putAll,Act.put,sA_,s0_,s1_]) (hCont (v184,v187) _ ⟨(by exact Kd.R_mono HO185.out (fun _ hk => hk.2)),(by exact Kd.R_mono HO188.out (fun _ hk => hk.2)),(by exact HB.out)⟩)
    ·skip
     refine Kd.R_make_step (Kd.int .i64) _ 3 (by rfl) (N:=17) rfl 39 _ _ rfl (l0.length : Int) rfl rfl Try.underlying39 (.int .i64 0) 8 info3 rfl (by decide) (by omega) 0 (ok:=fun _ => True) (okp:=fun _ => True) rfl (fun _ hk => hk) trivial (of_decide_eq_true (by (with_reducible assumption))) (Nat.le_trans (Nat.mul_le_mul_right _ (of_decide_eq_true (by (with_reducible assumption)) : (l0.length : Int).toNat ≤ 35184372088832)) (by omega)) (Below.refl _ _) (Nat.le_refl _) ?_;intro v187 w7 ho8 hb hg_ hnew_;clear hg_ hnew_
     (rw [← Ny186.out] at ho8)
     have n0_:=am_ (Kd.R_lower ho8 (below_size (by exact HB.out)));have n1_:=am_ (below_step (by exact HB.out) hb);clear HB;have HO188:=n0_;have HB:=n1_;clear n0_ n1_;clear hb ho8;refine hK.out _ _ trivial (fun hHeld => ?_);clear hK K;refine norm_ (a':=?_) ?_ ?_
     rotate_left
     ·show Act.put _ (some 17) _ = _
      simp only [Act.put,sA_,s0_,s1_,i64_w,i32_w]
      rfl
     refine one_ (i:=2) (N:=some 14) #[true,true,true,true,true,true,false,false] rfl rfl (one_of HT_.out (by kernel_rfl)) (by decide) (fun K hK => ?_);refine Kd.R_make_step (Kd.int .i64) _ 3 (by rfl) (N:=14) rfl 39 _ _ rfl (l0.length : Int) rfl rfl Try.underlying39 (.int .i64 0) 8 info3 rfl (by decide) (by omega) 0 (ok:=fun _ => True) (okp:=fun _ => True) rfl (fun _ hk => hk) trivial (of_decide_eq_true (by (with_reducible assumption))) (Nat.le_trans (Nat.mul_le_mul_right _ (of_decide_eq_true (by (with_reducible assumption)) : (l0.length : Int).toNat ≤ 35184372088832)) (by omega)) (Below.refl _ _) (Nat.le_refl _) ?_;intro v184 w9 ho10 hb hg_ hnew_;clear hg_ hnew_
     (rw [← Ny183.out] at ho10)
     have n0_:=am_ (Kd.R_elder' (by exact HO188.out) (Kd.R_base ho10) hb);have n1_:=am_ (Kd.R_lower (Kd.R_new' ho10 (Kd.R_lt (by exact HO188.out))) (below_size (by exact HB.out)));have n2_:=am_ (below_step (by exact HB.out) hb);clear HO188;clear HB;have HO188:=n0_;have HO185:=n1_;have HB:=n2_;clear n0_ n1_ n2_;clear hb ho10;refine hK.out _ _ trivial (fun hHeld => ?_);clear hK K;refine norm_ (a':=?_) ?_ ?_
     rotate_left
     ·show Act.put _ (some 14) _ = _
      simp only [Act.put,sA_,s0_,s1_,i64_w,i32_w]
      rfl
     refine pure_ (i:=6) (N:=some 8) (v:=?_) (a':=?_) #[true,true,true,true,true,true,true,false] rfl rfl (any_of HT_.out (by kernel_rfl)) (fun _ _ _ h => h) (Or.inl ⟨by rfl, ?_⟩) ?_ ?_
     rotate_left
     ·intro w'
      go_simp
      with_reducible rfl
     rotate_left
     ·simp only [Act.put,sA_,s0_,s1_,i64_w,i32_w]
      rfl
     exact norm_ (by simp only [putAll,Act.put,sA_,s0_,s1_]) (hCont (v184,v187) _ ⟨(by exact Kd.R_mono HO185.out (fun _ hk => hk.2)),(by exact Kd.R_mono HO188.out (fun _ hk => hk.2)),(by exact HB.out)⟩)
   rintro ⟨v184,v187⟩ w11 ⟨h0_,h1_,h2_⟩;have n0_ : Aside0 (Kd.R (Kd.int .i64) 3 w11 w.heap.size (fun k_ => some k_ ≠ (v187 : Value).ownBlock) v184 y183):=⟨h0_⟩;have n1_ : Aside0 (Kd.R (Kd.int .i64) 3 w11 w.heap.size (fun k_ => some k_ ≠ (v184 : Value).ownBlock) v187 y186):=⟨h1_⟩;have n2_ : Aside0 (Below w.heap.size w w11):=⟨h2_⟩;clear HB;clear h0_ h1_ h2_;have HO185:=n0_;have HO188:=n1_;have HB:=n2_;clear n0_ n1_ n2_;have hHeld:=trivial;refine norm_ (a':=?_) ?_ ?_
   rotate_left
   ·simp only [putAll,Act.put,sA_,s0_,s1_]
    rfl
   refine pure_ (i:=7) (N:=some 9) (v:=?_) (a':=?_) #[true,true,true,true,true,true,true,true] rfl rfl (any_of HT_.out (by kernel_rfl)) (fun _ _ _ h => h) (Or.inl ⟨by rfl, ?_⟩) ?_ ?_
   rotate_left
   ·intro w'
    go_simp
    with_reducible rfl
   rotate_left
   ·simp only [Act.put,sA_,s0_,s1_,i64_w,i32_w]
    rfl
   refine done_ (done_of HT_.out (by kernel_rfl)) ?_
   try go_wp2
   (skip)
   go_loopg [20] k (fun kq v20 w' => ∃ (x8_1 : List Int) (x9_1 : List Int) (x20_1 : Int),v20 = .int .i64 x20_1 ∧ Aside0 (impl_usage.l0 kq l1 x8_1 x9_1 l2 (l2.length : Int) x20_1 = some (r1,r2)) ∧ Aside0 (kq ≤ k) ∧ Aside0 (Kd.R (Kd.int .i64) 3 w' w.heap.size (fun k_ => some k_ ≠ (v187 : Value).ownBlock) v184 x8_1) ∧ Aside0 (Kd.R (Kd.int .i64) 3 w' w.heap.size (fun k_ => some k_ ≠ (v184 : Value).ownBlock) v187 x9_1) ∧ Aside0 (Below w.heap.size w w'))
   case atStart => exact ⟨(y183),(y186),(0),(by rfl),H',⟨Nat.le_refl _⟩,⟨by exact HO185.out⟩,⟨by exact HO188.out⟩,⟨by exact HB.out⟩⟩
   case round =>
    clear H';(try clear c1);(try clear c2);(try clear p2);(try clear c4);(try clear c4b0);(try clear c4b1);(try clear c5);(try clear c5b0);(try clear c5b1);obtain ⟨x8_1,x9_1,x20_1,rfl,HA,HK1,HO_8,HO_9,HB⟩ := hrel
    cases gk with
    | zero => exact absurd HA.out (by simp [impl_usage.l0])
    | succ k1 =>
     have H:=HA.out;clear HA;simp only [impl_usage.l0] at H
     by_cases c12 : x20_1 < (l2.length : Int)
     ·rw [if_pos c12] at H;have c12b0 : decide (x20_1 < (l2.length : Int)) = true:=decide_eq_true c12;clear c12
      by_cases c13 : 0 ≤ x20_1
      ·rw [if_pos c13] at H;have c13b0 : decide (0 ≤ x20_1) = true:=decide_eq_true c13;clear c13
       by_cases c14 : x20_1 < (l2.length : Int)
       ·rw [if_pos c14] at H;have c14b0 : decide (x20_1 < (l2.length : Int)) = true:=decide_eq_true c14;clear c14
        by_cases c15 : (rd l2 x20_1) ≥ 0
        ·rw [if_pos c15] at H;have c15b0 : decide (0 ≤ (rd l2 x20_1)) = true:=decide_eq_true c15;clear c15
         by_cases c16 : 0 ≤ (rd l2 x20_1)
         ·rw [if_pos c16] at H;have c16b0 : decide (0 ≤ (rd l2 x20_1)) = true:=decide_eq_true c16;clear c16
          by_cases c17 : (rd l2 x20_1) < (x8_1.length : Int)
          ·rw [if_pos c17] at H;have c17b0 : decide ((rd l2 x20_1) < (x8_1.length : Int)) = true:=decide_eq_true c17;clear c17
           by_cases c18 : x20_1 < (l1.length : Int)
           ·rw [if_pos c18] at H;have c18b0 : decide (x20_1 < (l1.length : Int)) = true:=decide_eq_true c18;clear c18;obtain ⟨y192,hy192⟩ : ∃ y_ : List Int,y_ = (x8_1.set ((rd l2 x20_1) : Int).toNat (wrap64 ((rd x8_1 (rd l2 x20_1)) + ((rd_T64 l1 x20_1).f1)))):=⟨_,rfl⟩
            replace H : (if (rd l2 x20_1) < (x9_1.length : Int) then (impl_usage.l0 k1 l1 y192 (x9_1.set ((rd l2 x20_1) : Int).toNat (wrap64 ((rd x9_1 (rd l2 x20_1)) + ((rd_T64 l1 x20_1).f2)))) l2 (l2.length : Int) (wrap64 (x20_1 + 1))) else (none)) = some (r1,r2):=by (rw [hy192];with_reducible exact H)
            have Ny192:=am_ hy192;clear hy192
            by_cases c20 : (rd l2 x20_1) < (x9_1.length : Int)
            ·rw [if_pos c20] at H;have c20b0 : decide ((rd l2 x20_1) < (x9_1.length : Int)) = true:=decide_eq_true c20;clear c20;obtain ⟨y195,hy195⟩ : ∃ y_ : List Int,y_ = (x9_1.set ((rd l2 x20_1) : Int).toNat (wrap64 ((rd x9_1 (rd l2 x20_1)) + ((rd_T64 l1 x20_1).f2)))):=⟨_,rfl⟩
             replace H : (impl_usage.l0 k1 l1 y192 y195 l2 (l2.length : Int) (wrap64 (x20_1 + 1))) = some (r1,r2):=by (rw [hy195];with_reducible exact H)
             have Ny195:=am_ hy195;clear hy195;have H':=am_ H;clear H;have p189 : 0 ≤ (x20_1 : Int):=of_decide_eq_true (by (with_reducible assumption));have q189 : x20_1 < (l2.length : Int):=of_decide_eq_true (by (with_reducible assumption));obtain ⟨ad189,e189,hx189_0⟩ := Kd.at_int HR2.out x20_1 p189 q189;cases e189;replace hx189_0:=(HB.out.cell (World.block_lt_of_cell? w _ hx189_0)).trans hx189_0;replace p189:=eq_true p189;replace q189:=eq_true q189
             try go_wp2
             have n0_:=am_ (Kd.R_drew HO_8.out);have n1_:=am_ (Kd.R_drew HO_9.out);have n2_:=am_ (below_drew1 HB.out);clear HO_8;clear HO_9;clear HB;have HO_8:=n0_;have HO_9:=n1_;have HB:=n2_;clear n0_ n1_ n2_;obtain ⟨Ao23,co23,eo23⟩ := Kd.R_slice HO_8.out
             (subst eo23)
             have p190 : 0 ≤ ((rd l2 x20_1) : Int):=of_decide_eq_true (by (with_reducible assumption));have q190 : (rd l2 x20_1) < (x8_1.length : Int):=of_decide_eq_true (by (with_reducible assumption));obtain ⟨ad190,e190,hx190_0⟩ := Kd.at_int (Kd.R_reads' HO_8.out).2.2 (rd l2 x20_1) p190 q190;cases e190;replace p190:=eq_true p190;replace q190:=eq_true q190;have p191 : 0 ≤ (x20_1 : Int):=of_decide_eq_true (by (with_reducible assumption));have q191 : x20_1 < (l1.length : Int):=of_decide_eq_true (by (with_reducible assumption));obtain ⟨ad191,e191,hx191_0,hx191_1,hx191_2,hx191_3,hx191_4⟩ := at_T64 HR1.out x20_1 p191 q191;have hw191_4:=hx191_4;have hw191_3:=hx191_3;have hw191_2:=hx191_2;have hw191_1:=hx191_1;have hw191_0:=hx191_0;cases e191;replace hx191_0:=(HB.out.cell (World.block_lt_of_cell? w _ hx191_0)).trans hx191_0;replace hx191_1:=(HB.out.cell (World.block_lt_of_cell? w _ hx191_1)).trans hx191_1;replace hx191_2:=(HB.out.cell (World.block_lt_of_cell? w _ hx191_2)).trans hx191_2;replace hx191_3:=(HB.out.cell (World.block_lt_of_cell? w _ hx191_3)).trans hx191_3;replace hx191_4:=(HB.out.cell (World.block_lt_of_cell? w _ hx191_4)).trans hx191_4;replace p191:=eq_true p191;replace q191:=eq_true q191;have p19 : 0 ≤ ((rd l2 x20_1) : Int):=of_decide_eq_true (by (with_reducible assumption));have q19 : ((rd l2 x20_1) : Int) < ((x8_1.length : Int) : Int):=of_decide_eq_true (by (with_reducible assumption));obtain ⟨go19,co19,eo19,gb19,gl19,cl19,HG19⟩ := Kd.R_form HO_8.out (by omega)
             (cases eo19)
             have GB19:=am_ gb19;have GG19:=am_ HG19;clear gb19 gl19 HG19
             (simp only [add_plain] at hx190_0)
             obtain ⟨hx19_0,hf19_0⟩ := Kd.R_celln 0 HO_8.out ((rd l2 x20_1) : Int) p19 q19;replace p19:=eq_true p19;replace q19:=eq_true q19;have HP24:=Kd.R_putn HO_8.out ((rd l2 x20_1) : Int) (wrap64 ((rd x8_1 (rd l2 x20_1)) + ((rd_T64 l1 x20_1).f1)));rw [← Ny192.out] at HP24;have HQ24:=am_ HP24;clear HP24
             refine start_ (n:=12) (S:=fun w' => w'.cell? ⟨go19,((rd l2 x20_1)).toNat,none⟩ = some (.int .i64 (rd x8_1 (rd l2 x20_1))) ∧ w'.cell? (ad191.add ((x20_1).toNat * 5)) = some (.string ((rd_T64 l1 x20_1).f0)) ∧ w'.cell? ⟨(ad191.add ((x20_1).toNat * 5)).block,(ad191.add ((x20_1).toNat * 5)).off + 1,none⟩ = some (.int .i64 ((rd_T64 l1 x20_1).f1)) ∧ w'.cell? ⟨(ad191.add ((x20_1).toNat * 5)).block,(ad191.add ((x20_1).toNat * 5)).off + 2,none⟩ = some (.int .i64 ((rd_T64 l1 x20_1).f2)) ∧ w'.cell? ⟨(ad191.add ((x20_1).toNat * 5)).block,(ad191.add ((x20_1).toNat * 5)).off + 3,none⟩ = some (.int .i64 ((rd_T64 l1 x20_1).f3)) ∧ w'.cell? ⟨(ad191.add ((x20_1).toNat * 5)).block,(ad191.add ((x20_1).toNat * 5)).off + 4,none⟩ = some (.int .i64 ((rd_T64 l1 x20_1).f4))) (ds := [11]) #[false,false,false,false,false,false,false,false,false,false,false,false] (by kernel_rfl) rfl rfl ⟨hx190_0,((HB.out.cell (World.block_lt_of_cell? w _ hw191_0)).trans hw191_0),((HB.out.cell (World.block_lt_of_cell? w _ hw191_1)).trans hw191_1),((HB.out.cell (World.block_lt_of_cell? w _ hw191_2)).trans hw191_2),((HB.out.cell (World.block_lt_of_cell? w _ hw191_3)).trans hw191_3),((HB.out.cell (World.block_lt_of_cell? w _ hw191_4)).trans hw191_4)⟩ (fun hHeld => ?_);refine with_tabW impl_usage.tab6 impl_usage.bits6 (fun HT_ HW_ => ?_)
             generalize wr.drew = w22 at HO_8 HO_9 HB GG19 HQ24 hf19_0 hx190_0 hx191_0 hx191_1 hx191_2 hx191_3 hx191_4 hx19_0 hHeld ⊢;refine pure_ (i:=0) (N:=some 27) (v:=?_) (a':=?_) #[true,false,false,false,false,false,false,false,false,false,false,false] rfl rfl (any_of HT_.out (by kernel_rfl)) (fun _ _ _ h => h) (Or.inl ⟨by rfl, ?_⟩) ?_ ?_
             rotate_left
             ·intro w'
              go_simp
              with_reducible rfl
             rotate_left
             ·simp only [Act.put,sA_,s0_,s1_,i64_w,i32_w]
              rfl
             refine pure_ (i:=1) (N:=some 28) (v:=?_) (a':=?_) #[true,true,false,false,false,false,false,false,false,false,false,false] rfl rfl (any_of HT_.out (by kernel_rfl)) (fun _ _ _ h => h) (Or.inl ⟨by rfl, ?_⟩) ?_ ?_
             rotate_left
             ·intro w'
              go_simp
              with_reducible rfl
             rotate_left
             ·simp only [Act.put,sA_,s0_,s1_,i64_w,i32_w]
              rfl
             refine pure_ (i:=2) (N:=some 29) (v:=?_) (a':=?_) #[true,true,true,false,false,false,false,false,false,false,false,false] rfl rfl (any_of HT_.out (by kernel_rfl)) (fun _ _ _ h => h) (Or.inl ⟨by rfl, ?_⟩) ?_ ?_
             rotate_left
             ·intro w'
              go_simp
              with_reducible rfl
             rotate_left
             ·simp only [Act.put,sA_,s0_,s1_,i64_w,i32_w]
              rfl
             refine pure_ (i:=4) (N:=some 31) (v:=?_) (a':=?_) #[true,true,true,false,true,false,false,false,false,false,false,false] rfl rfl (any_of HT_.out (by kernel_rfl)) (fun _ _ _ h => h) (Or.inl ⟨by rfl, ?_⟩) ?_ ?_
             rotate_left
             ·intro w'
              go_simp
              with_reducible rfl
             rotate_left
             ·simp only [Act.put,sA_,s0_,s1_,i64_w,i32_w]
              rfl
             refine pure_ (i:=5) (N:=some 32) (v:=?_) (a':=?_) #[true,true,true,false,true,true,false,false,false,false,false,false] rfl rfl (any_of HT_.out (by kernel_rfl)) (fun _ _ _ h => h) (Or.inl ⟨by rfl, ?_⟩) ?_ ?_
             rotate_left
             ·intro w'
              go_simp
              with_reducible rfl
             rotate_left
             ·simp only [Act.put,sA_,s0_,s1_,i64_w,i32_w]
              rfl
             refine pure_ (i:=6) (N:=some 33) (v:=?_) (a':=?_) #[true,true,true,false,true,true,true,false,false,false,false,false] rfl rfl (any_of HT_.out (by kernel_rfl)) (fun _ _ _ h => h) (Or.inl ⟨by rfl, ?_⟩) ?_ ?_
             rotate_left
             ·intro w'
              go_simp
              with_reducible rfl
             rotate_left
             ·simp only [Act.put,sA_,s0_,s1_,i64_w,i32_w]
              rfl
             refine pure_ (i:=7) (N:=some 34) (v:=?_) (a':=?_) #[true,true,true,false,true,true,true,true,false,false,false,false] rfl rfl (any_of HT_.out (by kernel_rfl)) (fun _ _ _ h => h) (Or.inl ⟨by rfl, ?_⟩) ?_ ?_
             rotate_left
             ·intro w'
              go_simp
              with_reducible rfl
             rotate_left
             ·simp only [Act.put,sA_,s0_,s1_,i64_w,i32_w]
              rfl
             refine take_ (i:=3) (N:=some 30) (v:=?_) (a':=?_) #[true,true,true,true,true,true,true,true,false,false,false,false] rfl rfl (take_ofW HT_.out HW_.out (by kernel_rfl)) (fun _ _ _ h => h) (Or.inl ⟨by rfl, ?_⟩) hHeld ?_ ?_
             rotate_left
             ·rintro w' ⟨s0,s1,s2,s3,s4,s5⟩
              go_simp
              with_reducible rfl
             rotate_left
             ·simp only [Act.put,sA_,s0_,s1_,i64_w,i32_w]
              rfl
             refine take_ (i:=8) (N:=some 35) (v:=?_) (a':=?_) #[true,true,true,true,true,true,true,true,true,false,false,false] rfl rfl (take_ofW HT_.out HW_.out (by kernel_rfl)) (fun _ _ _ h => h) (Or.inl ⟨by rfl, ?_⟩) hHeld ?_ ?_
             rotate_left
             ·rintro w' ⟨s0,s1,s2,s3,s4,s5⟩
              go_simp
              with_reducible rfl
             rotate_left
             ·simp only [Act.put,sA_,s0_,s1_,i64_w,i32_w]
              rfl
             refine pure_ (i:=9) (N:=some 36) (v:=?_) (a':=?_) #[true,true,true,true,true,true,true,true,true,true,false,false] rfl rfl (any_of HT_.out (by kernel_rfl)) (fun _ _ _ h => h) (Or.inl ⟨by rfl, ?_⟩) ?_ ?_
             rotate_left
             ·intro w'
              go_simp
              with_reducible rfl
             rotate_left
             ·simp only [Act.put,sA_,s0_,s1_,i64_w,i32_w]
              rfl
             refine pure_ (i:=10) (N:=some 37) (v:=?_) (a':=?_) #[true,true,true,true,true,true,true,true,true,true,true,false] rfl rfl (any_of HT_.out (by kernel_rfl)) (fun _ _ _ h => h) (Or.inl ⟨by rfl, ?_⟩) ?_ ?_
             rotate_left
             ·intro w'
              go_simp
              with_reducible rfl
             rotate_left
             ·simp only [Act.put,sA_,s0_,s1_,i64_w,i32_w]
              rfl
             refine last_ (i:=11) (N:=none) #[true,true,true,true,true,true,true,true,true,true,true,true] rfl rfl (one_of HT_.out (by kernel_rfl)) (by decide) (fun K hK => ?_);refine skip_ (w1:=?_) (by rfl) rfl ?_ ?_
             rotate_left
             ·go_simp
              rfl
             refine hK.out _ _ ?_;clear hK K;refine done_ (done_of HT_.out (by kernel_rfl)) ?_
             try go_wp2
             have n0_ : Aside0 (Kd.R (Kd.int .i64) 3 (w22.setCell ⟨go19,((rd l2 x20_1) : Int).toNat,none⟩ (.int .i64 (wrap64 ((rd x8_1 (rd l2 x20_1)) + ((rd_T64 l1 x20_1).f1))))) w.heap.size (fun k_ => some k_ ≠ (v187 : Value).ownBlock) (.slice (some ⟨go19,0,none⟩) x8_1.length co23) y192):=⟨by exact HQ24.out⟩;have n1_ : Aside0 (Kd.R (Kd.int .i64) 3 (w22.setCell ⟨go19,((rd l2 x20_1) : Int).toNat,none⟩ (.int .i64 (wrap64 ((rd x8_1 (rd l2 x20_1)) + ((rd_T64 l1 x20_1).f1))))) w.heap.size (fun k_ => some k_ ≠ (.slice (some ⟨go19,0,none⟩) x8_1.length co23 : Value).ownBlock) v187 x9_1):=⟨by exact Kd.R_mono (Kd.R_far (p:=⟨go19,((rd l2 x20_1) : Int).toNat,none⟩) (Kd.R_mono HO_9.out (fun k_ hk => (⟨hk,fun e_ => hk (by rw [e_];rfl)⟩ : _ ∧ k_ ≠ go19))) (fun _ hk => hk.2) (.int .i64 (wrap64 ((rd x8_1 (rd l2 x20_1)) + ((rd_T64 l1 x20_1).f1))))) (fun _ hk => hk.1)⟩;have n2_ : Aside0 (Below w.heap.size w (w22.setCell ⟨go19,((rd l2 x20_1) : Int).toNat,none⟩ (.int .i64 (wrap64 ((rd x8_1 (rd l2 x20_1)) + ((rd_T64 l1 x20_1).f1)))))):=⟨by repeat ((with_reducible first | exact HB.out | refine below_set ?_ GB19.out))⟩;(try clear HO_8);(try clear HO_9);(try clear HB);generalize (w22.setCell ⟨go19,((rd l2 x20_1) : Int).toNat,none⟩ (.int .i64 (wrap64 ((rd x8_1 (rd l2 x20_1)) + ((rd_T64 l1 x20_1).f1))))) = w25 at n0_ n1_ n2_ ⊢;have HO_8:=n0_;have HO_9:=n1_;have HB:=n2_;clear n0_ n1_ n2_;have n0_:=am_ (Kd.R_drew HO_8.out);have n1_:=am_ (Kd.R_drew HO_9.out);have n2_:=am_ (below_drew1 HB.out);clear HO_8;clear HO_9;clear HB;have HO_8:=n0_;have HO_9:=n1_;have HB:=n2_;clear n0_ n1_ n2_;obtain ⟨Ao27,co27,eo27⟩ := Kd.R_slice HO_9.out
             (subst eo27)
             have p193 : 0 ≤ ((rd l2 x20_1) : Int):=of_decide_eq_true (by (with_reducible assumption));have q193 : (rd l2 x20_1) < (x9_1.length : Int):=of_decide_eq_true (by (with_reducible assumption));obtain ⟨ad193,e193,hx193_0⟩ := Kd.at_int (Kd.R_reads' HO_9.out).2.2 (rd l2 x20_1) p193 q193;cases e193;replace p193:=eq_true p193;replace q193:=eq_true q193;have p194 : 0 ≤ (x20_1 : Int):=of_decide_eq_true (by (with_reducible assumption));have q194 : x20_1 < (l1.length : Int):=of_decide_eq_true (by (with_reducible assumption));obtain ⟨ad194,e194,hx194_0,hx194_1,hx194_2,hx194_3,hx194_4⟩ := at_T64 HR1.out x20_1 p194 q194;have hw194_4:=hx194_4;have hw194_3:=hx194_3;have hw194_2:=hx194_2;have hw194_1:=hx194_1;have hw194_0:=hx194_0;obtain rfl : ad191 = ad194:=(by injection e194);replace hx194_0:=(HB.out.cell (World.block_lt_of_cell? w _ hx194_0)).trans hx194_0;replace hx194_1:=(HB.out.cell (World.block_lt_of_cell? w _ hx194_1)).trans hx194_1;replace hx194_2:=(HB.out.cell (World.block_lt_of_cell? w _ hx194_2)).trans hx194_2;replace hx194_3:=(HB.out.cell (World.block_lt_of_cell? w _ hx194_3)).trans hx194_3;replace hx194_4:=(HB.out.cell (World.block_lt_of_cell? w _ hx194_4)).trans hx194_4;replace p194:=eq_true p194;replace q194:=eq_true q194;have p21 : 0 ≤ ((rd l2 x20_1) : Int):=of_decide_eq_true (by (with_reducible assumption));have q21 : ((rd l2 x20_1) : Int) < ((x9_1.length : Int) : Int):=of_decide_eq_true (by (with_reducible assumption));obtain ⟨go21,co21,eo21,gb21,gl21,cl21,HG21⟩ := Kd.R_form HO_9.out (by omega)
             (cases eo21)
             have GB21:=am_ gb21;have GG21:=am_ HG21;clear gb21 gl21 HG21
             (simp only [add_plain] at hx193_0)
             obtain ⟨hx21_0,hf21_0⟩ := Kd.R_celln 0 HO_9.out ((rd l2 x20_1) : Int) p21 q21;replace p21:=eq_true p21;replace q21:=eq_true q21;have HP28:=Kd.R_putn HO_9.out ((rd l2 x20_1) : Int) (wrap64 ((rd x9_1 (rd l2 x20_1)) + ((rd_T64 l1 x20_1).f2)));rw [← Ny195.out] at HP28;have HQ28:=am_ HP28;clear HP28
             refine start_ (n:=12) (S:=fun w' => w'.cell? ⟨go21,((rd l2 x20_1)).toNat,none⟩ = some (.int .i64 (rd x9_1 (rd l2 x20_1))) ∧ w'.cell? (ad191.add ((x20_1).toNat * 5)) = some (.string ((rd_T64 l1 x20_1).f0)) ∧ w'.cell? ⟨(ad191.add ((x20_1).toNat * 5)).block,(ad191.add ((x20_1).toNat * 5)).off + 1,none⟩ = some (.int .i64 ((rd_T64 l1 x20_1).f1)) ∧ w'.cell? ⟨(ad191.add ((x20_1).toNat * 5)).block,(ad191.add ((x20_1).toNat * 5)).off + 2,none⟩ = some (.int .i64 ((rd_T64 l1 x20_1).f2)) ∧ w'.cell? ⟨(ad191.add ((x20_1).toNat * 5)).block,(ad191.add ((x20_1).toNat * 5)).off + 3,none⟩ = some (.int .i64 ((rd_T64 l1 x20_1).f3)) ∧ w'.cell? ⟨(ad191.add ((x20_1).toNat * 5)).block,(ad191.add ((x20_1).toNat * 5)).off + 4,none⟩ = some (.int .i64 ((rd_T64 l1 x20_1).f4))) (ds := [11]) #[false,false,false,false,false,false,false,false,false,false,false,false] (by kernel_rfl) rfl rfl ⟨hx193_0,((HB.out.cell (World.block_lt_of_cell? w _ hw194_0)).trans hw194_0),((HB.out.cell (World.block_lt_of_cell? w _ hw194_1)).trans hw194_1),((HB.out.cell (World.block_lt_of_cell? w _ hw194_2)).trans hw194_2),((HB.out.cell (World.block_lt_of_cell? w _ hw194_3)).trans hw194_3),((HB.out.cell (World.block_lt_of_cell? w _ hw194_4)).trans hw194_4)⟩ (fun hHeld => ?_);refine with_tabW impl_usage.tab7 impl_usage.bits7 (fun HT_ HW_ => ?_)
             generalize w25.drew = w26 at HO_8 HO_9 HB GG21 HQ24 HQ28 hf21_0 hx193_0 hx194_0 hx194_1 hx194_2 hx194_3 hx194_4 hx21_0 hHeld ⊢;refine pure_ (i:=0) (N:=some 38) (v:=?_) (a':=?_) #[true,false,false,false,false,false,false,false,false,false,false,false] rfl rfl (any_of HT_.out (by kernel_rfl)) (fun _ _ _ h => h) (Or.inl ⟨by rfl, ?_⟩) ?_ ?_
             rotate_left
             ·intro w'
              go_simp
              with_reducible rfl
             rotate_left
             ·simp only [Act.put,sA_,s0_,s1_,i64_w,i32_w]
              rfl
             refine pure_ (i:=1) (N:=some 39) (v:=?_) (a':=?_) #[true,true,false,false,false,false,false,false,false,false,false,false] rfl rfl (any_of HT_.out (by kernel_rfl)) (fun _ _ _ h => h) (Or.inl ⟨by rfl, ?_⟩) ?_ ?_
             rotate_left
             ·intro w'
              go_simp
              with_reducible rfl
             rotate_left
             ·simp only [Act.put,sA_,s0_,s1_,i64_w,i32_w]
              rfl
             refine pure_ (i:=2) (N:=some 40) (v:=?_) (a':=?_) #[true,true,true,false,false,false,false,false,false,false,false,false] rfl rfl (any_of HT_.out (by kernel_rfl)) (fun _ _ _ h => h) (Or.inl ⟨by rfl, ?_⟩) ?_ ?_
             rotate_left
             ·intro w'
              go_simp
              with_reducible rfl
             rotate_left
             ·simp only [Act.put,sA_,s0_,s1_,i64_w,i32_w]
              rfl
             refine pure_ (i:=4) (N:=some 42) (v:=?_) (a':=?_) #[true,true,true,false,true,false,false,false,false,false,false,false] rfl rfl (any_of HT_.out (by kernel_rfl)) (fun _ _ _ h => h) (Or.inl ⟨by rfl, ?_⟩) ?_ ?_
             rotate_left
             ·intro w'
              go_simp
              with_reducible rfl
             rotate_left
             ·simp only [Act.put,sA_,s0_,s1_,i64_w,i32_w]
              rfl
             refine pure_ (i:=5) (N:=some 43) (v:=?_) (a':=?_) #[true,true,true,false,true,true,false,false,false,false,false,false] rfl rfl (any_of HT_.out (by kernel_rfl)) (fun _ _ _ h => h) (Or.inl ⟨by rfl, ?_⟩) ?_ ?_
             rotate_left
             ·intro w'
              go_simp
              with_reducible rfl
             rotate_left
             ·simp only [Act.put,sA_,s0_,s1_,i64_w,i32_w]
              rfl
             refine pure_ (i:=6) (N:=some 44) (v:=?_) (a':=?_) #[true,true,true,false,true,true,true,false,false,false,false,false] rfl rfl (any_of HT_.out (by kernel_rfl)) (fun _ _ _ h => h) (Or.inl ⟨by rfl, ?_⟩) ?_ ?_
             rotate_left
             ·intro w'
              go_simp
              with_reducible rfl
             rotate_left
             ·simp only [Act.put,sA_,s0_,s1_,i64_w,i32_w]
              rfl
             refine pure_ (i:=7) (N:=some 45) (v:=?_) (a':=?_) #[true,true,true,false,true,true,true,true,false,false,false,false] rfl rfl (any_of HT_.out (by kernel_rfl)) (fun _ _ _ h => h) (Or.inl ⟨by rfl, ?_⟩) ?_ ?_
             rotate_left
             ·intro w'
              go_simp
              with_reducible rfl
             rotate_left
             ·simp only [Act.put,sA_,s0_,s1_,i64_w,i32_w]
              rfl
             refine take_ (i:=3) (N:=some 41) (v:=?_) (a':=?_) #[true,true,true,true,true,true,true,true,false,false,false,false] rfl rfl (take_ofW HT_.out HW_.out (by kernel_rfl)) (fun _ _ _ h => h) (Or.inl ⟨by rfl, ?_⟩) hHeld ?_ ?_
             rotate_left
             ·rintro w' ⟨s0,s1,s2,s3,s4,s5⟩
              go_simp
              with_reducible rfl
             rotate_left
             ·simp only [Act.put,sA_,s0_,s1_,i64_w,i32_w]
              rfl
             refine take_ (i:=8) (N:=some 46) (v:=?_) (a':=?_) #[true,true,true,true,true,true,true,true,true,false,false,false] rfl rfl (take_ofW HT_.out HW_.out (by kernel_rfl)) (fun _ _ _ h => h) (Or.inl ⟨by rfl, ?_⟩) hHeld ?_ ?_
             rotate_left
             ·rintro w' ⟨s0,s1,s2,s3,s4,s5⟩
              go_simp
              with_reducible rfl
             rotate_left
             ·simp only [Act.put,sA_,s0_,s1_,i64_w,i32_w]
              rfl
             refine pure_ (i:=9) (N:=some 47) (v:=?_) (a':=?_) #[true,true,true,true,true,true,true,true,true,true,false,false] rfl rfl (any_of HT_.out (by kernel_rfl)) (fun _ _ _ h => h) (Or.inl ⟨by rfl, ?_⟩) ?_ ?_
             rotate_left
             ·intro w'
              go_simp
              with_reducible rfl
             rotate_left
             ·simp only [Act.put,sA_,s0_,s1_,i64_w,i32_w]
              rfl
             refine pure_ (i:=10) (N:=some 48) (v:=?_) (a':=?_) #[true,true,true,true,true,true,true,true,true,true,true,false] rfl rfl (any_of HT_.out (by kernel_rfl)) (fun _ _ _ h => h) (Or.inl ⟨by rfl, ?_⟩) ?_ ?_
             rotate_left
             ·intro w'
              go_simp
              with_reducible rfl
             rotate_left
             ·simp only [Act.put,sA_,s0_,s1_,i64_w,i32_w]
              rfl
             refine last_ (i:=11) (N:=none) #[true,true,true,true,true,true,true,true,true,true,true,true] rfl rfl (one_of HT_.out (by kernel_rfl)) (by decide) (fun K hK => ?_);refine skip_ (w1:=?_) (by rfl) rfl ?_ ?_
             rotate_left
             ·go_simp
              rfl
             refine hK.out _ _ ?_;clear hK K;refine done_ (done_of HT_.out (by kernel_rfl)) ?_
             try go_wp2
             go_roundg k1
             case measure => have:=HK1.out;omega
             case rel => exact ⟨(y192),(y195),(wrap64 (x20_1 + 1)),(by rfl),H',⟨by have:=HK1.out;omega⟩,⟨by exact Kd.R_mono (Kd.R_far (p:=⟨go21,((rd l2 x20_1) : Int).toNat,none⟩) (Kd.R_mono HO_8.out (fun k_ hk => (⟨hk,fun e_ => hk (by rw [e_];rfl)⟩ : _ ∧ k_ ≠ go21))) (fun _ hk => hk.2) (.int .i64 (wrap64 ((rd x9_1 (rd l2 x20_1)) + ((rd_T64 l1 x20_1).f2))))) (fun _ hk => hk.1)⟩,⟨by exact HQ28.out⟩,⟨by repeat ((with_reducible first | exact HB.out | refine below_set ?_ GB21.out))⟩⟩
            ·rw [if_neg c20] at H
             exact absurd H (by simp)
           ·rw [if_neg c18] at H
            exact absurd H (by simp)
          ·rw [if_neg c17] at H
           exact absurd H (by simp)
         ·rw [if_neg c16] at H
          exact absurd H (by simp)
        ·rw [if_neg c15] at H;have c15b0 : decide (0 ≤ (rd l2 x20_1)) = false:=decide_eq_false c15;clear c15;have H':=am_ H;clear H;have p189 : 0 ≤ (x20_1 : Int):=of_decide_eq_true (by (with_reducible assumption));have q189 : x20_1 < (l2.length : Int):=of_decide_eq_true (by (with_reducible assumption));obtain ⟨ad189,e189,hx189_0⟩ := Kd.at_int HR2.out x20_1 p189 q189;cases e189;replace hx189_0:=(HB.out.cell (World.block_lt_of_cell? w _ hx189_0)).trans hx189_0;replace p189:=eq_true p189;replace q189:=eq_true q189
         go_wp2
         go_roundg k1
         case measure => have:=HK1.out;omega
         case rel => exact ⟨(x8_1),(x9_1),(wrap64 (x20_1 + 1)),(by rfl),H',⟨by have:=HK1.out;omega⟩,⟨by exact HO_8.out⟩,⟨by exact HO_9.out⟩,⟨by exact HB.out⟩⟩
       ·rw [if_neg c14] at H
        exact absurd H (by simp)
      ·rw [if_neg c13] at H
       exact absurd H (by simp)
     ·rw [if_neg c12] at H;have c12b0 : decide (x20_1 < (l2.length : Int)) = false:=decide_eq_false c12;clear c12;simp only [Option.some.injEq,Prod.mk.injEq] at H;obtain ⟨rfl,rfl⟩ := H
      go_wp2
      go_ret2
      exact ⟨_,_,by rfl,by exact HO_8.out,by exact HO_9.out,by exact HB.out⟩
  ·rw [if_neg c5] at H
   exact absurd H (by simp)
 ·rw [if_neg c4] at H
  exact absurd H (by simp)

/-! ### impl_isLoaded: function 39 -/
def impl_isLoaded.l0 : Nat → List Int → List Int → List (S54) → Int → Int → Option (Bool)
 | 0,_,_,_,_,_ => none
 | k + 1,x7,x8,x18,x19,x20 => if x20 < x19 then (if 0 ≤ x20 then (if x20 < (x18.length : Int) then (if x20 < (x7.length : Int) then (if (rd x7 x20) > ((rd_T54 x18 x20).f0) then (some false) else (if x20 < (x8.length : Int) then (if (rd x8 x20) > ((rd_T54 x18 x20).f1) then (some false) else (impl_isLoaded.l0 k x7 x8 x18 x19 (wrap64 (x20 + 1)))) else (none))) else (none)) else (none)) else (none)) else (some true)
def impl_isLoaded.f (k : Nat) (l0 : List (S54)) (l1 : List (S64)) (l2 : List Int) : Option (Bool):=(impl_usage.f k l0 l1 l2).bind fun bt196 => (impl_isLoaded.l0 k bt196.1 bt196.2 l0 (l0.length : Int) 0)
theorem impl_isLoaded.mono_l : ∀ k,(∀ y0 y1 y2 y3 y4,LeO (impl_isLoaded.l0 k y0 y1 y2 y3 y4) (impl_isLoaded.l0 (k + 1) y0 y1 y2 y3 y4))
 | 0 => fun _ _ _ _ _ r h => by simp [impl_isLoaded.l0] at h
 | k + 1 => by
  have ih0:=impl_isLoaded.mono_l k
  ·intro y0 y1 y2 y3 y4
   unfold impl_isLoaded.l0
   repeat' first
   | (with_reducible exact ih0 _ _ _ _ _)
   | (with_reducible exact impl_usage.mono _ _ _ _)
   | (with_reducible exact LeO.refl _)
   | (with_reducible exact LeO.none _)
   | (with_reducible refine LeO.ite ?_ ?_)
   | (with_reducible refine LeO.bind ?_ (fun _ => ?_))
   | exact ih0 _ _ _ _ _
   | exact impl_usage.mono _ _ _ _
   | exact LeO.none _
   | refine LeO.ite ?_ ?_
   | refine LeO.bind ?_ (fun _ => ?_)
theorem impl_isLoaded.mono : ∀ a0 a1 a2 k,LeO (impl_isLoaded.f k a0 a1 a2) (impl_isLoaded.f (k + 1) a0 a1 a2):=by
 intro a0 a1 a2 k;have ih0:=impl_isLoaded.mono_l k
 unfold impl_isLoaded.f
 repeat' first
   | (with_reducible exact ih0 _ _ _ _ _)
   | (with_reducible exact impl_usage.mono _ _ _ _)
   | (with_reducible exact LeO.refl _)
   | (with_reducible exact LeO.none _)
   | (with_reducible refine LeO.ite ?_ ?_)
   | (with_reducible refine LeO.bind ?_ (fun _ => ?_))
   | exact ih0 _ _ _ _ _
   | exact impl_usage.mono _ _ _ _
   | exact LeO.none _
   | refine LeO.ite ?_ ?_
   | refine LeO.bind ?_ (fun _ => ?_)
set_option maxHeartbeats 8000000 in
set_option maxRecDepth 100000 in
theorem impl_isLoaded.calls (k : Nat) (A0 : Option Addr) (c0 : Nat) (l0 : List (S54)) (A1 : Option Addr) (c1 : Nat) (l1 : List (S64)) (A2 : Option Addr) (c2 : Nat) (l2 : List Int) (r : Bool) (w : World) (hr0 : Kd.C k54 w A0 l0.length l0) (hc0 : l0.length ≤ c0) (hr1 : Kd.C k64 w A1 l1.length l1) (hc1 : l1.length ≤ c1) (hr2 : Kd.C (Kd.int .i64) w A2 l2.length l2) (hc2 : l2.length ≤ c2) (h : impl_isLoaded.f k l0 l1 l2 = some r) :
  Calls Try.prog 39 #[.slice A0 l0.length c0, .slice A1 l1.length c1, .slice A2 l2.length c2] w fun e w' => e = .returned (.bool r) ∧ Below w.heap.size w w':=by
 have hu54:=Try.underlying54;have HR0:=am_ hr0;have HC0:=am_ hc0;clear hr0 hc0;have HR1:=am_ hr1;have HC1:=am_ hc1;clear hr1 hc1;have HR2:=am_ hr2;have HC2:=am_ hc2;clear hr2 hc2;have HB:=am_ (Below.refl w.heap.size w);have H : ((impl_usage.f k l0 l1 l2).bind fun bt196 => (impl_isLoaded.l0 k bt196.1 bt196.2 l0 (l0.length : Int) 0)) = some r:=h;clear h;replace H:=Option.bind_eq_some_iff.mp H;obtain ⟨⟨t196,t197⟩,A40,H⟩ := H;replace H : (impl_isLoaded.l0 k t196 t197 l0 (l0.length : Int) 0) = some r:=H;have A4:=am_ A40;clear A40;have H':=am_ H;clear H
 go_enter Try.func39,Try.ntmps39
 go_wp2_with ((go_at_call 54;(with_reducible refine (impl_usage.calls k _ _ l0 _ _ l1 _ _ l2 t196 t197 _ ?side1 ?side2 ?side3 ?side4 ?side5 ?side6 A4.out).mono ?_);(case side1 => repeat (exact HR0.out));(case side2 => exact HC0.out);(case side3 => repeat (exact HR1.out));(case side4 => exact HC1.out);(case side5 => repeat (exact HR2.out));(case side6 => exact HC2.out);rintro e w5 ⟨v198,v200,rfl,ho0,ho1,hb⟩;have n0_:=am_ (Kd.R_lower ho0 (below_size (by exact HB.out)));have n1_:=am_ (Kd.R_lower ho1 (below_size (by exact HB.out)));have n2_:=am_ (below_step (by exact HB.out) hb);clear HB;have HO199:=n0_;have HO201:=n1_;have HB:=n2_;clear n0_ n1_ n2_;(try clear hb);(try clear ho0);(try clear ho1)))
 repeat (go_quiet (fail);try go_wp2_with (fail))
 go_loopg [20] k (fun kq v20 w' => ∃ (x20_1 : Int),v20 = .int .i64 x20_1 ∧ Aside0 (impl_isLoaded.l0 kq t196 t197 l0 (l0.length : Int) x20_1 = some r) ∧ Aside0 (kq ≤ k) ∧ Aside0 (Kd.R (Kd.int .i64) 3 w' w.heap.size (fun k_ => some k_ ≠ (v200 : Value).ownBlock) v198 t196) ∧ Aside0 (Kd.R (Kd.int .i64) 3 w' w.heap.size (fun k_ => some k_ ≠ (v198 : Value).ownBlock) v200 t197) ∧ Aside0 (Below w.heap.size w w'))
 case atStart => exact ⟨(0),(by rfl),H',⟨Nat.le_refl _⟩,⟨by exact HO199.out⟩,⟨by exact HO201.out⟩,⟨by exact HB.out⟩⟩
 case round =>
  clear H';(try clear c1);(try clear c2);(try clear p2);(try clear c3);obtain ⟨x20_1,rfl,HA,HK1,HO_7,HO_8,HB⟩ := hrel
  cases gk with
  | zero => exact absurd HA.out (by simp [impl_isLoaded.l0])
  | succ k1 =>
   have H:=HA.out;clear HA;simp only [impl_isLoaded.l0] at H
   by_cases c6 : x20_1 < (l0.length : Int)
   ·rw [if_pos c6] at H;have c6b0 : decide (x20_1 < (l0.length : Int)) = true:=decide_eq_true c6;clear c6
    by_cases c7 : 0 ≤ x20_1
    ·rw [if_pos c7] at H;have c7b0 : decide (0 ≤ x20_1) = true:=decide_eq_true c7;clear c7
     by_cases c8 : x20_1 < (l0.length : Int)
     ·rw [if_pos c8] at H;have c8b0 : decide (x20_1 < (l0.length : Int)) = true:=decide_eq_true c8;clear c8
      by_cases c9 : x20_1 < (t196.length : Int)
      ·rw [if_pos c9] at H;have c9b0 : decide (x20_1 < (t196.length : Int)) = true:=decide_eq_true c9;clear c9
       by_cases c10 : (rd t196 x20_1) > ((rd_T54 l0 x20_1).f0)
       ·rw [if_pos c10] at H;have c10b0 : decide (((rd_T54 l0 x20_1).f0) < (rd t196 x20_1)) = true:=decide_eq_true c10;clear c10;obtain rfl:=Option.some.inj H;have p202 : 0 ≤ (x20_1 : Int):=of_decide_eq_true (by (with_reducible assumption));have q202 : x20_1 < (l0.length : Int):=of_decide_eq_true (by (with_reducible assumption));obtain ⟨ad202,e202,hx202_0,hx202_1⟩ := at_T54 HR0.out x20_1 p202 q202;cases e202;replace hx202_0:=(HB.out.cell (World.block_lt_of_cell? w _ hx202_0)).trans hx202_0;replace hx202_1:=(HB.out.cell (World.block_lt_of_cell? w _ hx202_1)).trans hx202_1;replace p202:=eq_true p202;replace q202:=eq_true q202
        go_wp2_with (((with_reducible refine gate_dst (N:=10) rfl ?_);refine box_event ?hg (N:=10) ?hd (cs:=#[.int .i64 0, .int .i64 0]) (t:=54) ?hr ?_;(case hd => rfl);(case hg => rfl);(case hr => (go_simp;done));intro gb203 hg w11 hbox hb;have n0_:=am_ (Kd.R_below (by exact HO_7.out) hb);have n1_:=am_ (Kd.R_below (by exact HO_8.out) hb);have n2_:=am_ (below_step (by exact HB.out) hb);have n3_:=am_ hbox;have n4_:=am_ (ge_ hg (by exact HB.out));have n5_:=am_ (ge_ hg (by exact HB.out));clear HO_7;clear HO_8;clear HB;have HO_7:=n0_;have HO_8:=n1_;have HB:=n2_;have BK203:=n3_;have GW203:=n4_;have GE203:=n5_;clear n0_ n1_ n2_ n3_ n4_ n5_;clear hb hbox hg;have hcz12_0:=c2_0 BK203.out;have hcz12_1:=c2_1 BK203.out;have hfz12_0:=blk_frozen BK203.out 0;have hfz12_1:=blk_frozen BK203.out 1;obtain ⟨Ao13,co13,eo13⟩ := Kd.R_slice HO_7.out;subst eo13;have p204 : 0 ≤ (x20_1 : Int):=of_decide_eq_true (by (with_reducible assumption));have q204 : x20_1 < (t196.length : Int):=of_decide_eq_true (by (with_reducible assumption));obtain ⟨ad204,e204,hx204_0⟩ := Kd.at_int (Kd.R_reads' HO_7.out).2.2 x20_1 p204 q204;cases e204;have hn204_0 : ad204.block ≠ gb203:=Kd.own_blk (Kd.R_ne HO_7.out BK203.out (by decide));have hn204_1 : ad204.block ≠ gb203:=Kd.own_blk (Kd.R_ne HO_7.out BK203.out (by decide));replace hx204_0:=(cell_far (p:=⟨gb203,0,none⟩) (by (rw [add_block];exact hn204_0)) (.int .i64 ((rd_T54 l0 x20_1).f0))).trans hx204_0;replace hx204_0:=(cell_far (p:=⟨gb203,1,none⟩) (by (rw [add_block];exact hn204_1)) (.int .i64 ((rd_T54 l0 x20_1).f1))).trans hx204_0;(try have hy204_0:=fun (n_ : Nat) => (show ((((w11.drewN n_).setCell ⟨gb203,0,none⟩ (.int .i64 ((rd_T54 l0 x20_1).f0))).setCell ⟨gb203,1,none⟩ (.int .i64 ((rd_T54 l0 x20_1).f1)))).cell? _ = some _ from hx204_0));clear hn204_0;clear hn204_1;replace p204:=eq_true p204;replace q204:=eq_true q204))
        repeat (go_quiet (fail);try go_wp2_with (fail))
        go_ret
        exact ⟨by rfl,by repeat ((with_reducible first | exact HB.out | apply pw_below_drewN | refine below_set ?_ GE203.out))⟩
       ·rw [if_neg c10] at H;have c10b0 : decide (((rd_T54 l0 x20_1).f0) < (rd t196 x20_1)) = false:=decide_eq_false c10;clear c10
        by_cases c14 : x20_1 < (t197.length : Int)
        ·rw [if_pos c14] at H;have c14b0 : decide (x20_1 < (t197.length : Int)) = true:=decide_eq_true c14;clear c14
         by_cases c15 : (rd t197 x20_1) > ((rd_T54 l0 x20_1).f1)
         ·rw [if_pos c15] at H;have c15b0 : decide (((rd_T54 l0 x20_1).f1) < (rd t197 x20_1)) = true:=decide_eq_true c15;clear c15;obtain rfl:=Option.some.inj H;have p202 : 0 ≤ (x20_1 : Int):=of_decide_eq_true (by (with_reducible assumption));have q202 : x20_1 < (l0.length : Int):=of_decide_eq_true (by (with_reducible assumption));obtain ⟨ad202,e202,hx202_0,hx202_1⟩ := at_T54 HR0.out x20_1 p202 q202;cases e202;replace hx202_0:=(HB.out.cell (World.block_lt_of_cell? w _ hx202_0)).trans hx202_0;replace hx202_1:=(HB.out.cell (World.block_lt_of_cell? w _ hx202_1)).trans hx202_1;replace p202:=eq_true p202;replace q202:=eq_true q202
          go_wp2_with (((with_reducible refine gate_dst (N:=10) rfl ?_);refine box_event ?hg (N:=10) ?hd (cs:=#[.int .i64 0, .int .i64 0]) (t:=54) ?hr ?_;(case hd => rfl);(case hg => rfl);(case hr => (go_simp;done));intro gb203 hg w16 hbox hb;have n0_:=am_ (Kd.R_below (by exact HO_7.out) hb);have n1_:=am_ (Kd.R_below (by exact HO_8.out) hb);have n2_:=am_ (below_step (by exact HB.out) hb);have n3_:=am_ hbox;have n4_:=am_ (ge_ hg (by exact HB.out));have n5_:=am_ (ge_ hg (by exact HB.out));clear HO_7;clear HO_8;clear HB;have HO_7:=n0_;have HO_8:=n1_;have HB:=n2_;have BK203:=n3_;have GW203:=n4_;have GE203:=n5_;clear n0_ n1_ n2_ n3_ n4_ n5_;clear hb hbox hg;have hcz17_0:=c2_0 BK203.out;have hcz17_1:=c2_1 BK203.out;have hfz17_0:=blk_frozen BK203.out 0;have hfz17_1:=blk_frozen BK203.out 1;obtain ⟨Ao18,co18,eo18⟩ := Kd.R_slice HO_7.out;subst eo18;have p204 : 0 ≤ (x20_1 : Int):=of_decide_eq_true (by (with_reducible assumption));have q204 : x20_1 < (t196.length : Int):=of_decide_eq_true (by (with_reducible assumption));obtain ⟨ad204,e204,hx204_0⟩ := Kd.at_int (Kd.R_reads' HO_7.out).2.2 x20_1 p204 q204;cases e204;have hn204_0 : ad204.block ≠ gb203:=Kd.own_blk (Kd.R_ne HO_7.out BK203.out (by decide));have hn204_1 : ad204.block ≠ gb203:=Kd.own_blk (Kd.R_ne HO_7.out BK203.out (by decide));replace hx204_0:=(cell_far (p:=⟨gb203,0,none⟩) (by (rw [add_block];exact hn204_0)) (.int .i64 ((rd_T54 l0 x20_1).f0))).trans hx204_0;replace hx204_0:=(cell_far (p:=⟨gb203,1,none⟩) (by (rw [add_block];exact hn204_1)) (.int .i64 ((rd_T54 l0 x20_1).f1))).trans hx204_0;(try have hy204_0:=fun (n_ : Nat) => (show ((((w16.drewN n_).setCell ⟨gb203,0,none⟩ (.int .i64 ((rd_T54 l0 x20_1).f0))).setCell ⟨gb203,1,none⟩ (.int .i64 ((rd_T54 l0 x20_1).f1)))).cell? _ = some _ from hx204_0));clear hn204_0;clear hn204_1;replace p204:=eq_true p204;replace q204:=eq_true q204;obtain ⟨Ao19,co19,eo19⟩ := Kd.R_slice HO_8.out;subst eo19;have p205 : 0 ≤ (x20_1 : Int):=of_decide_eq_true (by (with_reducible assumption));have q205 : x20_1 < (t197.length : Int):=of_decide_eq_true (by (with_reducible assumption));obtain ⟨ad205,e205,hx205_0⟩ := Kd.at_int (Kd.R_reads' HO_8.out).2.2 x20_1 p205 q205;cases e205;have hn205_0 : ad205.block ≠ gb203:=Kd.own_blk (Kd.R_ne HO_8.out BK203.out (by decide));have hn205_1 : ad205.block ≠ gb203:=Kd.own_blk (Kd.R_ne HO_8.out BK203.out (by decide));replace hx205_0:=(cell_far (p:=⟨gb203,0,none⟩) (by (rw [add_block];exact hn205_0)) (.int .i64 ((rd_T54 l0 x20_1).f0))).trans hx205_0;replace hx205_0:=(cell_far (p:=⟨gb203,1,none⟩) (by (rw [add_block];exact hn205_1)) (.int .i64 ((rd_T54 l0 x20_1).f1))).trans hx205_0;(try have hy205_0:=fun (n_ : Nat) => (show ((((w16.drewN n_).setCell ⟨gb203,0,none⟩ (.int .i64 ((rd_T54 l0 x20_1).f0))).setCell ⟨gb203,1,none⟩ (.int .i64 ((rd_T54 l0 x20_1).f1)))).cell? _ = some _ from hx205_0));clear hn205_0;clear hn205_1;replace p205:=eq_true p205;replace q205:=eq_true q205))
          repeat (go_quiet (fail);try go_wp2_with (fail))
          go_ret
          exact ⟨by rfl,by repeat ((with_reducible first | exact HB.out | apply pw_below_drewN | refine below_set ?_ GE203.out))⟩
         ·rw [if_neg c15] at H;have c15b0 : decide (((rd_T54 l0 x20_1).f1) < (rd t197 x20_1)) = false:=decide_eq_false c15;clear c15;have H':=am_ H;clear H;have p202 : 0 ≤ (x20_1 : Int):=of_decide_eq_true (by (with_reducible assumption));have q202 : x20_1 < (l0.length : Int):=of_decide_eq_true (by (with_reducible assumption));obtain ⟨ad202,e202,hx202_0,hx202_1⟩ := at_T54 HR0.out x20_1 p202 q202;cases e202;replace hx202_0:=(HB.out.cell (World.block_lt_of_cell? w _ hx202_0)).trans hx202_0;replace hx202_1:=(HB.out.cell (World.block_lt_of_cell? w _ hx202_1)).trans hx202_1;replace p202:=eq_true p202;replace q202:=eq_true q202
          go_wp2_with (((with_reducible refine gate_dst (N:=10) rfl ?_);refine box_event ?hg (N:=10) ?hd (cs:=#[.int .i64 0, .int .i64 0]) (t:=54) ?hr ?_;(case hd => rfl);(case hg => rfl);(case hr => (go_simp;done));intro gb203 hg w20 hbox hb;have n0_:=am_ (Kd.R_below (by exact HO_7.out) hb);have n1_:=am_ (Kd.R_below (by exact HO_8.out) hb);have n2_:=am_ (below_step (by exact HB.out) hb);have n3_:=am_ hbox;have n4_:=am_ (ge_ hg (by exact HB.out));have n5_:=am_ (ge_ hg (by exact HB.out));clear HO_7;clear HO_8;clear HB;have HO_7:=n0_;have HO_8:=n1_;have HB:=n2_;have BK203:=n3_;have GW203:=n4_;have GE203:=n5_;clear n0_ n1_ n2_ n3_ n4_ n5_;clear hb hbox hg;have hcz21_0:=c2_0 BK203.out;have hcz21_1:=c2_1 BK203.out;have hfz21_0:=blk_frozen BK203.out 0;have hfz21_1:=blk_frozen BK203.out 1;obtain ⟨Ao22,co22,eo22⟩ := Kd.R_slice HO_7.out;subst eo22;have p204 : 0 ≤ (x20_1 : Int):=of_decide_eq_true (by (with_reducible assumption));have q204 : x20_1 < (t196.length : Int):=of_decide_eq_true (by (with_reducible assumption));obtain ⟨ad204,e204,hx204_0⟩ := Kd.at_int (Kd.R_reads' HO_7.out).2.2 x20_1 p204 q204;cases e204;have hn204_0 : ad204.block ≠ gb203:=Kd.own_blk (Kd.R_ne HO_7.out BK203.out (by decide));have hn204_1 : ad204.block ≠ gb203:=Kd.own_blk (Kd.R_ne HO_7.out BK203.out (by decide));replace hx204_0:=(cell_far (p:=⟨gb203,0,none⟩) (by (rw [add_block];exact hn204_0)) (.int .i64 ((rd_T54 l0 x20_1).f0))).trans hx204_0;replace hx204_0:=(cell_far (p:=⟨gb203,1,none⟩) (by (rw [add_block];exact hn204_1)) (.int .i64 ((rd_T54 l0 x20_1).f1))).trans hx204_0;(try have hy204_0:=fun (n_ : Nat) => (show ((((w20.drewN n_).setCell ⟨gb203,0,none⟩ (.int .i64 ((rd_T54 l0 x20_1).f0))).setCell ⟨gb203,1,none⟩ (.int .i64 ((rd_T54 l0 x20_1).f1)))).cell? _ = some _ from hx204_0));clear hn204_0;clear hn204_1;replace p204:=eq_true p204;replace q204:=eq_true q204;obtain ⟨Ao23,co23,eo23⟩ := Kd.R_slice HO_8.out;subst eo23;have p205 : 0 ≤ (x20_1 : Int):=of_decide_eq_true (by (with_reducible assumption));have q205 : x20_1 < (t197.length : Int):=of_decide_eq_true (by (with_reducible assumption));obtain ⟨ad205,e205,hx205_0⟩ := Kd.at_int (Kd.R_reads' HO_8.out).2.2 x20_1 p205 q205;cases e205;have hn205_0 : ad205.block ≠ gb203:=Kd.own_blk (Kd.R_ne HO_8.out BK203.out (by decide));have hn205_1 : ad205.block ≠ gb203:=Kd.own_blk (Kd.R_ne HO_8.out BK203.out (by decide));replace hx205_0:=(cell_far (p:=⟨gb203,0,none⟩) (by (rw [add_block];exact hn205_0)) (.int .i64 ((rd_T54 l0 x20_1).f0))).trans hx205_0;replace hx205_0:=(cell_far (p:=⟨gb203,1,none⟩) (by (rw [add_block];exact hn205_1)) (.int .i64 ((rd_T54 l0 x20_1).f1))).trans hx205_0;(try have hy205_0:=fun (n_ : Nat) => (show ((((w20.drewN n_).setCell ⟨gb203,0,none⟩ (.int .i64 ((rd_T54 l0 x20_1).f0))).setCell ⟨gb203,1,none⟩ (.int .i64 ((rd_T54 l0 x20_1).f1)))).cell? _ = some _ from hx205_0));clear hn205_0;clear hn205_1;replace p205:=eq_true p205;replace q205:=eq_true q205))
          repeat (go_quiet (fail);try go_wp2_with (fail))
          go_roundg k1
          case measure => have:=HK1.out;omega
          case rel => exact ⟨(wrap64 (x20_1 + 1)),(by rfl),H',⟨by have:=HK1.out;omega⟩,⟨by (with_reducible repeat (apply Kd.R_drewN));exact Kd.R_mono (rf2_ (Kd.R_types HO_7.out BK203.out (by decide)) (.int .i64 ((rd_T54 l0 x20_1).f0)) (.int .i64 ((rd_T54 l0 x20_1).f1))) (fun _ hk => hk.1)⟩,⟨by (with_reducible repeat (apply Kd.R_drewN));exact Kd.R_mono (rf2_ (Kd.R_types HO_8.out BK203.out (by decide)) (.int .i64 ((rd_T54 l0 x20_1).f0)) (.int .i64 ((rd_T54 l0 x20_1).f1))) (fun _ hk => hk.1)⟩,⟨by repeat ((with_reducible first | exact HB.out | apply pw_below_drewN | refine below_set ?_ GE203.out))⟩⟩
        ·rw [if_neg c14] at H
         exact absurd H (by simp)
      ·rw [if_neg c9] at H
       exact absurd H (by simp)
     ·rw [if_neg c8] at H
      exact absurd H (by simp)
    ·rw [if_neg c7] at H
     exact absurd H (by simp)
   ·rw [if_neg c6] at H;have c6b0 : decide (x20_1 < (l0.length : Int)) = false:=decide_eq_false c6;clear c6;obtain rfl:=Option.some.inj H
    go_wp2
    repeat (go_quiet (fail);try go_wp2)
    go_ret
    exact ⟨by rfl,by exact HB.out⟩

/-! ### slices_Clone_int: function 46 -/
def slices_Clone_int.f (l0 : List Int) : Option (List Int):=(some (([] : List Int) : List Int)).bind fun y206 => (if y206.length + l0.length < 17592186044416 then (some (y206 ++ l0)) else (none))
set_option maxHeartbeats 8000000 in
set_option maxRecDepth 100000 in
theorem slices_Clone_int.calls (A0 : Option Addr) (c0 : Nat) (l0 : List Int) (r : List Int) (w : World) (hr0 : Kd.C (Kd.int .i64) w A0 l0.length l0) (hc0 : l0.length ≤ c0) (h : slices_Clone_int.f l0 = some r) :
  Calls Try.prog 46 #[.slice A0 l0.length c0] w fun e w' => ∃ v0_ : Value,e = .returned (v0_) ∧ Kd.R (Kd.int .i64) 3 w' w.heap.size (fun _ => True) v0_ r ∧ Below w.heap.size w w':=by
 have HR0:=am_ hr0;have HC0:=am_ hc0;clear hr0 hc0;have HB:=am_ (Below.refl w.heap.size w);have H : ((some (([] : List Int) : List Int)).bind fun y206 => (if y206.length + l0.length < 17592186044416 then (some (y206 ++ l0)) else (none))) = some r:=h;clear h;obtain ⟨y206,hy206⟩ : ∃ y_ : List Int,y_ = (([] : List Int)):=⟨_,rfl⟩
 replace H : (if y206.length + l0.length < 17592186044416 then (some (y206 ++ l0)) else (none)) = some r:=by (have H2_:=(Option.bind_some _ _).symm.trans H;rw [hy206];with_reducible exact H2_)
 have Ny206:=am_ hy206;clear hy206
 by_cases c2 : y206.length + l0.length < 17592186044416
 ·rw [if_pos c2] at H;have LMc2:=am_ c2;clear c2;obtain ⟨y209,hy209⟩ : ∃ y_ : List Int,y_ = (y206 ++ l0):=⟨_,rfl⟩
  replace H : (some y209) = some r:=by (rw [hy209];with_reducible exact H)
  have Ny209:=am_ hy209;clear hy209;obtain rfl:=Option.some.inj H
  have hnil_:=fun (w_ : World) (a_ : Option Addr) (n_ c_ : Nat) => Lib.run_eql_slice_nil (P:=Try.prog) w_ 39 3 a_ n_ c_ 0 0 Try.underlying39
  rcases A0 with _ | ad0_
  ·have l0nil : l0 = []:=by
    rcases l0 with _ | ⟨x_,l_⟩
    ·rfl
    ·obtain ⟨ad_,e_,_⟩ := HR0.out.2.2 (by simp);cases e_
   have rnil : y209 = []:=by rw [Ny209.out,Ny206.out,l0nil];rfl
   subst rnil;subst l0nil
   go_enter Try.func46,Try.ntmps46
   go_wp2
   go_ret
   exact ⟨_,rfl,Kd.R_nil _ _ _ _ _,Below.refl _ _⟩
  ·go_enter Try.func46,Try.ntmps46
   go_wp2_with (first | ((with_reducible refine gate_dst (N:=5) rfl ?_);refine Kd.R_lit (Kd.int .i64) _ 3 ?hg (N:=5) ?hd (xs:=([] : List Int)) (inner := []) (ok:=fun _ => True) (okp:=fun _ => True) ?hr ?hp (fun _ hk => hk) trivial (Below.refl _ _) (Nat.le_refl _) (by simp) ?_;(case hd => rfl);(case hg => rfl);(case hr => (go_simp;done));(case hp => exact (Reps.none _ _));intro v207 w3 ho4 hb hg_ hnew_;clear hg_ hnew_;(rw [← Ny206.out] at ho4);have n0_:=am_ (Kd.R_lower ho4 (below_size (by exact HB.out)));have n1_:=am_ (below_step (by exact HB.out) hb);clear HB;have HO208:=n0_;have HB:=n1_;clear n0_ n1_;clear hb ho4) | ((with_reducible refine gate_builtin (b := .append) (xs:=#[.tmp 5, .tmp 6]) rfl ?_);at_builtin;refine Kd.R_append_rows (Kd.int .i64) (w0:=w) w.heap.size rfl (.tmp 5) (.tmp 6) 39 3 (.int .i64 0) 8 rfl Try.underlying39 info3 rfl (by decide) (by omega) v207 y206 l0 _ _ _ (fun _ => True) (fun _ => False) rfl rfl ?aO ?aR (fun _ _ h => h) (fun _ h => h.elim) ?aF ?aB ?aS ?aL ?_;(case aR => repeat (exact (Kd.C_below HR0.out HB.out)));(case aB => exact (by exact HB.out));(case aF => exact (fun _ _ => trivial));(case aO => exact (by exact HO208.out));(case aS => exact (below_size (by exact HB.out)));(case aL => have:=LMc2.out;omega);intro v210 w5 ho hb hg hat;rw [← Ny209.out] at ho;have n0_:=am_ hb;have n1_:=am_ (ho);clear HB;clear HO208;have HB:=n0_;have HO211:=n1_;clear n0_ n1_;clear ho hb hg hat))
   go_ret
   exact ⟨_,by rfl,by exact HO211.out,by exact HB.out⟩
 ·rw [if_neg c2] at H
  exact absurd H (by simp)

end Go.Proofs.Ythbibjfnmljpkaa.PFnTrainLoading
