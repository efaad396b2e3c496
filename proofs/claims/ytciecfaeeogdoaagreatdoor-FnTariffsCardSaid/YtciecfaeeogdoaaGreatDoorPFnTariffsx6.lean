-- Written by a program of this session, over the kit's print (wip/xprint.py)
import Derived.Test.YtciecfaeeogdoaaGreatDoorPFnTariffsx0
import Derived.Test.YtciecfaeeogdoaaGreatDoorPFnTariffsx4
import Derived.Test.YtciecfaeeogdoaaGreatDoorPFnTariffsx5
namespace Go.Proofs.YtciecfaeeogdoaaGreatDoor.PFnTariffs
open Go.RowKit Go.Proofs.YtciecfaeeogdoaaGreatDoorW.PrintWords Go.Proofs.YtciecfaeeogdoaaGreatDoorW.PrintLast Go.Proofs.YtciecfaeeogdoaaGreatDoorW.PrintMore
attribute [local go_sem] max2_int min2_int max_two min_two max_three min_three max_four min_four   -- for this text's walks alone
set_option linter.unusedVariables false
set_option linter.unusedSimpArgs false

/-! ### spec_l1Num: function 22 -/
def spec_l1Num.f : Nat → Int → Option (ByteArray)
 | 0,_ => none
 | k + 1,a0 => if a0 < 0 then ((spec_l1Num.f k (wrap64 (-a0))).bind fun t243 => (if 1 + t243.size ≤ 9223372036854775807 then (some ((⟨#[45]⟩ : ByteArray) ++ t243)) else (none))) else (if a0 < 10 then (if 0 ≤ a0 then (if a0 ≤ (wrap64 (a0 + 1)) then (if (wrap64 (a0 + 1)) ≤ 10 then (some ((⟨#[48,49,50,51,52,53,54,55,56,57]⟩ : ByteArray).extract (a0 : Int).toNat ((wrap64 (a0 + 1)) : Int).toNat)) else (none)) else (none)) else (none)) else ((spec_l1Num.f k (wrap64 (Int.tdiv a0 10))).bind fun t244 => (if 0 ≤ (Int.tmod a0 10) then (if (Int.tmod a0 10) ≤ (wrap64 ((Int.tmod a0 10) + 1)) then (if (wrap64 ((Int.tmod a0 10) + 1)) ≤ 10 then (if t244.size + ((⟨#[48,49,50,51,52,53,54,55,56,57]⟩ : ByteArray).extract ((Int.tmod a0 10) : Int).toNat ((wrap64 ((Int.tmod a0 10) + 1)) : Int).toNat).size ≤ 9223372036854775807 then (some (t244 ++ ((⟨#[48,49,50,51,52,53,54,55,56,57]⟩ : ByteArray).extract ((Int.tmod a0 10) : Int).toNat ((wrap64 ((Int.tmod a0 10) + 1)) : Int).toNat))) else (none)) else (none)) else (none)) else (none))))
theorem spec_l1Num.mono_l : ∀ k,(∀ y0,LeO (spec_l1Num.f k y0) (spec_l1Num.f (k + 1) y0))
 | 0 => fun _ r h => by simp [spec_l1Num.f] at h
 | k + 1 => by
  have ih0:=spec_l1Num.mono_l k
  ·intro y0
   unfold spec_l1Num.f
   repeat' first
   | (with_reducible exact ih0 _)
   | (with_reducible exact LeO.refl _)
   | (with_reducible exact LeO.none _)
   | (with_reducible refine LeO.ite ?_ ?_)
   | (with_reducible refine LeO.bind ?_ (fun _ => ?_))
   | exact ih0 _
   | exact LeO.none _
   | refine LeO.ite ?_ ?_
   | refine LeO.bind ?_ (fun _ => ?_)
theorem spec_l1Num.mono : ∀ a0 k,LeO (spec_l1Num.f k a0) (spec_l1Num.f (k + 1) a0):=by
 intro a0 k;have ih0:=spec_l1Num.mono_l k
 exact ih0 a0
def spec_l1Num.T5 : Bool × List (List Nat × List Nat):=(true,[([],[]),([0],[0]),([1],[1]),([],[]),([3],[3]),([],[]),([5],[5]),([6],[6]),([4,7],[4,7]),([2,8],[2,8]),([9,2,0,1,2,3,4,5,6,7,8,9],[9])])
def spec_l1Num.B5 : List Nat := [0,1,3,0,8,0,32,96,248,511,1023]
theorem spec_l1Num.tab5 : rtab .any (opsOf Tryz.f22 5) = spec_l1Num.T5:=by kernel_rfl
theorem spec_l1Num.bits5 : waitsOk spec_l1Num.T5.2 spec_l1Num.B5 = true:=by kernel_rfl
set_option maxHeartbeats 8000000 in
set_option maxRecDepth 100000 in
theorem spec_l1Num.calls (k : Nat) : ∀ (a0 : Int) (r : ByteArray) (w : World) (h : spec_l1Num.f k a0 = some r),
  Calls Tryz.prog 22 #[.int .i64 a0] w fun e w' => e = .returned (.string r) ∧ Below w.heap.size w w':=by
 induction k using Nat.strongRecOn with
 | _ k ih =>
 intro a0 r w h
 cases k with
 | zero => exact absurd h (by simp [spec_l1Num.f])
 | succ k =>
 simp only [spec_l1Num.f] at h;have HB:=am_ (Below.refl w.heap.size w);have H : (if a0 < 0 then ((spec_l1Num.f k (wrap64 (-a0))).bind fun t243 => (if 1 + t243.size ≤ 9223372036854775807 then (some ((⟨#[45]⟩ : ByteArray) ++ t243)) else (none))) else (if a0 < 10 then (if 0 ≤ a0 then (if a0 ≤ (wrap64 (a0 + 1)) then (if (wrap64 (a0 + 1)) ≤ 10 then (some ((⟨#[48,49,50,51,52,53,54,55,56,57]⟩ : ByteArray).extract (a0 : Int).toNat ((wrap64 (a0 + 1)) : Int).toNat)) else (none)) else (none)) else (none)) else ((spec_l1Num.f k (wrap64 (Int.tdiv a0 10))).bind fun t244 => (if 0 ≤ (Int.tmod a0 10) then (if (Int.tmod a0 10) ≤ (wrap64 ((Int.tmod a0 10) + 1)) then (if (wrap64 ((Int.tmod a0 10) + 1)) ≤ 10 then (if t244.size + ((⟨#[48,49,50,51,52,53,54,55,56,57]⟩ : ByteArray).extract ((Int.tmod a0 10) : Int).toNat ((wrap64 ((Int.tmod a0 10) + 1)) : Int).toNat).size ≤ 9223372036854775807 then (some (t244 ++ ((⟨#[48,49,50,51,52,53,54,55,56,57]⟩ : ByteArray).extract ((Int.tmod a0 10) : Int).toNat ((wrap64 ((Int.tmod a0 10) + 1)) : Int).toNat))) else (none)) else (none)) else (none)) else (none))))) = some r:=h;clear h
 by_cases c2 : a0 < 0
 ·rw [if_pos c2] at H;have c2b0 : decide (a0 < 0) = true:=decide_eq_true c2;clear c2;replace H:=Option.bind_eq_some_iff.mp H;obtain ⟨t243,A30,H⟩ := H;replace H : (if 1 + t243.size ≤ 9223372036854775807 then (some ((⟨#[45]⟩ : ByteArray) ++ t243)) else (none)) = some r:=H;have A3:=am_ A30;clear A30
  by_cases c4 : 1 + t243.size ≤ 9223372036854775807
  ·rw [if_pos c4] at H;have c4b0:=eq_true c4;have c4b1 : decide (1 + t243.size ≤ 9223372036854775807) = true:=decide_eq_true c4
   try have c4b2 : (9223372036854775807 < 1 + t243.size) = False:=eq_false (Nat.not_lt.2 c4)
   obtain rfl:=Option.some.inj H
   go_enter Tryz.func22,Tryz.ntmps22
   go_wp2_with (((with_reducible refine gate_callee (f:=22) rfl ?_);refine goesL_ (some 7) rfl rfl Tryz.func22 (by kernel_rfl) rfl #[.int .i64 (wrap64 (-a0))] rfl (by (try simp only [List.map_toArray,List.map_cons,List.map_nil]);rfl) ?_;(with_reducible refine (ih k (by omega) (wrap64 (-a0)) t243 _ A3.out).mono ?_);rintro e w5 ⟨rfl,hb⟩;refine ⟨_,rfl, ?_⟩;have n0_:=am_ (below_step (by exact HB.out) hb);clear HB;have HB:=n0_;clear n0_;(try clear hb)))
   go_ret
   exact ⟨by rfl,by exact HB.out⟩
  ·rw [if_neg c4] at H
   exact absurd H (by simp)
 ·rw [if_neg c2] at H;have c2b0 : decide (a0 < 0) = false:=decide_eq_false c2;clear c2
  by_cases c6 : a0 < 10
  ·rw [if_pos c6] at H;have c6b0 : decide (a0 < 10) = true:=decide_eq_true c6;clear c6
   by_cases c7 : 0 ≤ a0
   ·rw [if_pos c7] at H;have c7b0:=eq_true c7;have c7b1 : decide (0 ≤ a0) = true:=decide_eq_true c7;clear c7
    by_cases c8 : a0 ≤ (wrap64 (a0 + 1))
    ·rw [if_pos c8] at H;have c8b0:=eq_true c8;have c8b1 : decide (a0 ≤ (wrap64 (a0 + 1))) = true:=decide_eq_true c8
     by_cases c9 : (wrap64 (a0 + 1)) ≤ 10
     ·rw [if_pos c9] at H;have c9b0:=eq_true c9;have c9b1 : decide ((wrap64 (a0 + 1)) ≤ 10) = true:=decide_eq_true c9;obtain rfl:=Option.some.inj H
      go_enter Tryz.func22,Tryz.ntmps22
      go_wp2
      go_ret
      exact ⟨by rfl,by exact HB.out⟩
     ·rw [if_neg c9] at H
      exact absurd H (by simp)
    ·rw [if_neg c8] at H
     exact absurd H (by simp)
   ·rw [if_neg c7] at H
    exact absurd H (by simp)
  ·rw [if_neg c6] at H;have c6b0 : decide (a0 < 10) = false:=decide_eq_false c6;clear c6;replace H:=Option.bind_eq_some_iff.mp H;obtain ⟨t244,A100,H⟩ := H;replace H : (if 0 ≤ (Int.tmod a0 10) then (if (Int.tmod a0 10) ≤ (wrap64 ((Int.tmod a0 10) + 1)) then (if (wrap64 ((Int.tmod a0 10) + 1)) ≤ 10 then (if t244.size + ((⟨#[48,49,50,51,52,53,54,55,56,57]⟩ : ByteArray).extract ((Int.tmod a0 10) : Int).toNat ((wrap64 ((Int.tmod a0 10) + 1)) : Int).toNat).size ≤ 9223372036854775807 then (some (t244 ++ ((⟨#[48,49,50,51,52,53,54,55,56,57]⟩ : ByteArray).extract ((Int.tmod a0 10) : Int).toNat ((wrap64 ((Int.tmod a0 10) + 1)) : Int).toNat))) else (none)) else (none)) else (none)) else (none)) = some r:=H;have A10:=am_ A100;clear A100;obtain ⟨ji11,hji11⟩ : ∃ j_ : Int,(Int.tmod a0 10) = j_:=⟨_,rfl⟩
   replace H : (if 0 ≤ (ji11) then (if (ji11) ≤ (wrap64 ((ji11) + 1)) then (if (wrap64 ((ji11) + 1)) ≤ 10 then (if t244.size + ((⟨#[48,49,50,51,52,53,54,55,56,57]⟩ : ByteArray).extract ((ji11) : Int).toNat ((wrap64 ((ji11) + 1)) : Int).toNat).size ≤ 9223372036854775807 then (some (t244 ++ ((⟨#[48,49,50,51,52,53,54,55,56,57]⟩ : ByteArray).extract ((ji11) : Int).toNat ((wrap64 ((ji11) + 1)) : Int).toNat))) else (none)) else (none)) else (none)) else (none)) = some r:=by (rw [hji11] at H;exact H)
   (skip)
   by_cases c12 : 0 ≤ (ji11)
   ·rw [if_pos c12] at H;have c12b0:=eq_true c12;have c12b1 : decide (0 ≤ (ji11)) = true:=decide_eq_true c12;clear c12
    by_cases c13 : (ji11) ≤ (wrap64 ((ji11) + 1))
    ·rw [if_pos c13] at H;have c13b0:=eq_true c13;have c13b1 : decide ((ji11) ≤ (wrap64 ((ji11) + 1))) = true:=decide_eq_true c13
     by_cases c14 : (wrap64 ((ji11) + 1)) ≤ 10
     ·rw [if_pos c14] at H;have c14b0:=eq_true c14;have c14b1 : decide ((wrap64 ((ji11) + 1)) ≤ 10) = true:=decide_eq_true c14
      by_cases c15 : t244.size + ((⟨#[48,49,50,51,52,53,54,55,56,57]⟩ : ByteArray).extract ((ji11) : Int).toNat ((wrap64 ((ji11) + 1)) : Int).toNat).size ≤ 9223372036854775807
      ·rw [if_pos c15] at H;have c15b0:=eq_true c15;have c15b1 : decide (t244.size + ((⟨#[48,49,50,51,52,53,54,55,56,57]⟩ : ByteArray).extract ((ji11) : Int).toNat ((wrap64 ((ji11) + 1)) : Int).toNat).size ≤ 9223372036854775807) = true:=decide_eq_true c15
       try have c15b2 : (9223372036854775807 < t244.size + ((⟨#[48,49,50,51,52,53,54,55,56,57]⟩ : ByteArray).extract ((ji11) : Int).toNat ((wrap64 ((ji11) + 1)) : Int).toNat).size) = False:=eq_false (Nat.not_lt.2 c15)
       try have c15b3 : (9223372036854775807 < t244.size + (((wrap64 ((ji11) + 1)) : Int).toNat - ((ji11) : Int).toNat)) = False:=by have h_:=c15;rw [ByteArray.size_extract,Nat.min_eq_left (show ((wrap64 ((ji11) + 1)) : Int).toNat ≤ (⟨#[48,49,50,51,52,53,54,55,56,57]⟩ : ByteArray).size from (show ((wrap64 ((ji11) + 1)) : Int).toNat ≤ 10 from by omega))] at h_;exact eq_false (Nat.not_lt.2 h_)
       obtain rfl:=Option.some.inj H
       go_enter Tryz.func22,Tryz.ntmps22
       try go_wp2
       have n0_:=am_ (below_drew1 HB.out);clear HB;have HB:=n0_;clear n0_
       refine start_ (n:=11) (S:=fun w' => True) (ds := []) #[false,false,false,false,false,false,false,false,false,false,false] (by kernel_rfl) rfl rfl trivial (fun hHeld => ?_);refine with_tabW spec_l1Num.tab5 spec_l1Num.bits5 (fun HT_ HW_ => ?_)
       generalize w.drew = w16 at HB hHeld ⊢;refine pure_ (i:=0) (N:=some 15) (v:=?_) (a':=?_) #[true,false,false,false,false,false,false,false,false,false,false] rfl rfl (any_of HT_.out (by kernel_rfl)) (fun _ _ _ h => h) (Or.inl ⟨by rfl, ?_⟩) ?_ ?_
       rotate_left
       ·intro w'
        go_simp
        with_reducible rfl
       rotate_left
       ·simp only [Act.put,sA_,s0_,s1_,i64_w,i32_w]
        rfl
       refine pure_ (i:=1) (N:=some 16) (v:=?_) (a':=?_) #[true,true,false,false,false,false,false,false,false,false,false] rfl rfl (any_of HT_.out (by kernel_rfl)) (fun _ _ _ h => h) (Or.inl ⟨by rfl, ?_⟩) ?_ ?_
       rotate_left
       ·intro w'
        go_simp
        with_reducible rfl
       rotate_left
       ·simp only [Act.put,sA_,s0_,s1_,i64_w,i32_w]
        rfl
       refine pure_ (i:=3) (N:=some 18) (v:=?_) (a':=?_) #[true,true,false,true,false,false,false,false,false,false,false] rfl rfl (any_of HT_.out (by kernel_rfl)) (fun _ _ _ h => h) (Or.inl ⟨by rfl, ?_⟩) ?_ ?_
       rotate_left
       ·intro w'
        go_simp
        with_reducible rfl
       rotate_left
       ·simp only [Act.put,sA_,s0_,s1_,i64_w,i32_w]
        rfl
       refine pure_ (i:=4) (N:=some 19) (v:=?_) (a':=?_) #[true,true,false,true,true,false,false,false,false,false,false] rfl rfl (any_of HT_.out (by kernel_rfl)) (fun _ _ _ h => h) (Or.inl ⟨by rfl, ?_⟩) ?_ ?_
       rotate_left
       ·intro w'
        go_simp
        with_reducible rfl
       rotate_left
       ·simp only [Act.put,sA_,s0_,s1_,i64_w,i32_w]
        rfl
       refine pure_ (i:=5) (N:=some 20) (v:=?_) (a':=?_) #[true,true,false,true,true,true,false,false,false,false,false] rfl rfl (any_of HT_.out (by kernel_rfl)) (fun _ _ _ h => h) (Or.inl ⟨by rfl, ?_⟩) ?_ ?_
       rotate_left
       ·intro w'
        go_simp
        with_reducible rfl
       rotate_left
       ·simp only [Act.put,sA_,s0_,s1_,i64_w,i32_w]
        rfl
       refine pure_ (i:=6) (N:=some 21) (v:=?_) (a':=?_) #[true,true,false,true,true,true,true,false,false,false,false] rfl rfl (any_of HT_.out (by kernel_rfl)) (fun _ _ _ h => h) (Or.inl ⟨by rfl, ?_⟩) ?_ ?_
       rotate_left
       ·intro w'
        go_simp
        with_reducible rfl
       rotate_left
       ·simp only [Act.put,sA_,s0_,s1_,i64_w,i32_w]
        rfl
       refine pure_ (i:=7) (N:=some 22) (v:=?_) (a':=?_) #[true,true,false,true,true,true,true,true,false,false,false] rfl rfl (any_of HT_.out (by kernel_rfl)) (fun _ _ _ h => h) (Or.inl ⟨by rfl, ?_⟩) ?_ ?_
       rotate_left
       ·intro w'
        go_simp
        with_reducible rfl
       rotate_left
       ·simp only [Act.put,sA_,s0_,s1_,i64_w,i32_w]
        rfl
       refine pure_ (i:=8) (N:=some 23) (v:=?_) (a':=?_) #[true,true,false,true,true,true,true,true,true,false,false] rfl rfl (any_of HT_.out (by kernel_rfl)) (fun _ _ _ h => h) (Or.inl ⟨by rfl, ?_⟩) ?_ ?_
       rotate_left
       ·intro w'
        go_simp
        with_reducible rfl
       rotate_left
       ·simp only [Act.put,sA_,s0_,s1_,i64_w,i32_w]
        rfl
       refine one_ (i:=2) (N:=some 17) #[true,true,true,true,true,true,true,true,true,false,false] rfl rfl (one_of HT_.out (by kernel_rfl)) (by decide) (fun K hK => ?_);refine goes_ Tryz.func22 (by kernel_rfl) rfl #[.int .i64 (wrap64 (Int.tdiv a0 10))] (by rfl) rfl rfl (by (try simp only [List.map_toArray,List.map_cons,List.map_nil]);rfl) ?_
       with_reducible refine (ih k (by omega) (wrap64 (Int.tdiv a0 10)) t244 _ A10.out).mono ?_
       rintro e w17 ⟨rfl,hb⟩;refine ⟨_,rfl, ?_⟩;have n0_:=am_ (below_step (by exact HB.out) hb);clear HB;have HB:=n0_;clear n0_;(try clear hb)
       (skip)
       (skip)
       (skip)
       refine hK.out _ _ trivial (fun hHeld => ?_);clear hK K;refine norm_ (a':=?_) ?_ ?_
       rotate_left
       ·show Act.put _ (some 17) _ = _
        simp only [Act.put,sA_,s0_,s1_,i64_w,i32_w]
        rfl
       refine pure_ (i:=9) (N:=some 24) (v:=?_) (a':=?_) #[true,true,true,true,true,true,true,true,true,true,false] rfl rfl (any_of HT_.out (by kernel_rfl)) (fun _ _ _ h => h) (Or.inl ⟨by rfl, ?_⟩) ?_ ?_
       rotate_left
       ·intro w'
        go_simp
        with_reducible rfl
       rotate_left
       ·simp only [Act.put,sA_,s0_,s1_,i64_w,i32_w]
        rfl
       refine pure_ (i:=10) (N:=some 2) (v:=?_) (a':=?_) #[true,true,true,true,true,true,true,true,true,true,true] rfl rfl (any_of HT_.out (by kernel_rfl)) (fun _ _ _ h => h) (Or.inl ⟨by rfl, ?_⟩) ?_ ?_
       rotate_left
       ·intro w'
        go_simp
        with_reducible rfl
       rotate_left
       ·simp only [Act.put,sA_,s0_,s1_,i64_w,i32_w]
        rfl
       refine done_ (done_of HT_.out (by kernel_rfl)) ?_
       try go_wp2
       go_ret
       exact ⟨by rfl,by exact HB.out⟩
      ·rw [if_neg c15] at H
       exact absurd H (by simp)
     ·rw [if_neg c14] at H
      exact absurd H (by simp)
    ·rw [if_neg c13] at H
     exact absurd H (by simp)
   ·rw [if_neg c12] at H
    exact absurd H (by simp)

/-! ### spec_ChargeText: function 7 -/
def spec_ChargeText.l0 : Nat → ByteArray → Int → Int → List (S45) → Int → Option (ByteArray × Bool)
 | 0,_,_,_,_,_ => none
 | k + 1,x4,x5,x246000,x246001,x246002 => if x5 < (x246001.length : Int) then (if x4.size + 2 ≤ 9223372036854775807 then (if 0 ≤ x5 then ((spec_l1Num.f k ((rd_T45 x246001 x5).f0)).bind fun t249 => (if (x4 ++ (⟨#[44,32]⟩ : ByteArray)).size + t249.size ≤ 9223372036854775807 then (if ((x4 ++ (⟨#[44,32]⟩ : ByteArray)) ++ t249).size + 3 ≤ 9223372036854775807 then ((spec_l1Num.f k ((rd_T45 x246001 x5).f1)).bind fun t251 => (if (((x4 ++ (⟨#[44,32]⟩ : ByteArray)) ++ t249) ++ (⟨#[32,120,32]⟩ : ByteArray)).size + t251.size ≤ 9223372036854775807 then (spec_ChargeText.l0 k ((((x4 ++ (⟨#[44,32]⟩ : ByteArray)) ++ t249) ++ (⟨#[32,120,32]⟩ : ByteArray)) ++ t251) (wrap64 (x5 + 1)) x246000 x246001 x246002) else (none))) else (none)) else (none))) else (none)) else (none)) else (if x4.size + 8 ≤ 9223372036854775807 then ((spec_l1Num.f k x246002).bind fun t252 => (if (x4 ++ (⟨#[44,32,108,97,114,103,101,32]⟩ : ByteArray)).size + t252.size ≤ 9223372036854775807 then (some ((x4 ++ (⟨#[44,32,108,97,114,103,101,32]⟩ : ByteArray)) ++ t252,true)) else (none))) else (none))
def spec_ChargeText.f (k : Nat) (a0_0 : Int) (l0_1 : List (S45)) (a0_2 : Int) : Option (ByteArray × Bool):=(spec_l22Good.f k a0_0 l0_1 a0_2).bind fun t246 => (if t246 = true then ((spec_l1Num.f k a0_0).bind fun t247 => (if t247.size + 5 ≤ 9223372036854775807 then (spec_ChargeText.l0 k (t247 ++ (⟨#[32,102,114,101,101]⟩ : ByteArray)) 0 a0_0 l0_1 a0_2) else (none))) else (some ((⟨#[]⟩ : ByteArray),false)))
theorem spec_ChargeText.mono_l : ∀ k,(∀ y0 y1 y2 y3 y4,LeO (spec_ChargeText.l0 k y0 y1 y2 y3 y4) (spec_ChargeText.l0 (k + 1) y0 y1 y2 y3 y4))
 | 0 => fun _ _ _ _ _ r h => by simp [spec_ChargeText.l0] at h
 | k + 1 => by
  have ih0:=spec_ChargeText.mono_l k
  ·intro y0 y1 y2 y3 y4
   unfold spec_ChargeText.l0
   repeat' first
   | (with_reducible exact ih0 _ _ _ _ _)
   | (with_reducible exact spec_l1Num.mono _ _)
   | (with_reducible exact spec_l22Good.mono _ _ _ _)
   | (with_reducible exact LeO.refl _)
   | (with_reducible exact LeO.none _)
   | (with_reducible refine LeO.ite ?_ ?_)
   | (with_reducible refine LeO.bind ?_ (fun _ => ?_))
   | exact ih0 _ _ _ _ _
   | exact spec_l1Num.mono _ _
   | exact spec_l22Good.mono _ _ _ _
   | exact LeO.none _
   | refine LeO.ite ?_ ?_
   | refine LeO.bind ?_ (fun _ => ?_)
theorem spec_ChargeText.mono : ∀ a0 a1 a2 k,LeO (spec_ChargeText.f k a0 a1 a2) (spec_ChargeText.f (k + 1) a0 a1 a2):=by
 intro a0 a1 a2 k;have ih0:=spec_ChargeText.mono_l k
 unfold spec_ChargeText.f
 repeat' first
   | (with_reducible exact ih0 _ _ _ _ _)
   | (with_reducible exact spec_l1Num.mono _ _)
   | (with_reducible exact spec_l22Good.mono _ _ _ _)
   | (with_reducible exact LeO.refl _)
   | (with_reducible exact LeO.none _)
   | (with_reducible refine LeO.ite ?_ ?_)
   | (with_reducible refine LeO.bind ?_ (fun _ => ?_))
   | exact ih0 _ _ _ _ _
   | exact spec_l1Num.mono _ _
   | exact spec_l22Good.mono _ _ _ _
   | exact LeO.none _
   | refine LeO.ite ?_ ?_
   | refine LeO.bind ?_ (fun _ => ?_)
def spec_ChargeText.T7 : Bool × List (List Nat × List Nat):=(true,[([],[]),([0],[0]),([],[]),([2],[2]),([],[]),([3,4],[3,4]),([5],[5]),([6],[6]),([7],[7]),([1,8],[1,8]),([9],[9]),([],[]),([11],[11]),([],[]),([12,13],[12,13]),([14],[14]),([15],[15]),([16,8],[16]),([10,17],[10,17]),([18,17,0,1,2,3,4,5,6,7,8,9,10,11,12,13,14,15,16,17,18],[0,18])])
def spec_ChargeText.B7 : List Nat := [0,1,0,4,0,28,60,124,252,511,1023,0,2048,0,14336,30720,63488,129532,262143,524287]
theorem spec_ChargeText.tab7 : rtab .any (opsOf Tryz.f7 7) = spec_ChargeText.T7:=by kernel_rfl
theorem spec_ChargeText.bits7 : waitsOk spec_ChargeText.T7.2 spec_ChargeText.B7 = true:=by kernel_rfl
set_option maxHeartbeats 8000000 in
set_option maxRecDepth 100000 in
theorem spec_ChargeText.calls (k : Nat) (a0_0 : Int) (A0_1 : Option Addr) (c0_1 : Nat) (l0_1 : List (S45)) (a0_2 : Int) (r1 : ByteArray) (r2 : Bool) (w : World) (hr0_1 : Kd.C k45 w A0_1 l0_1.length l0_1) (hc0_1 : l0_1.length ≤ c0_1) (h : spec_ChargeText.f k a0_0 l0_1 a0_2 = some (r1,r2)) :
  Calls Tryz.prog 7 #[.agg #[.int .i64 a0_0, .slice A0_1 l0_1.length c0_1, .int .i64 a0_2]] w fun e w' => e = .returned (.tuple #[.string r1, .bool r2]) ∧ Below w.heap.size w w':=by
 have hu26:=Tryz.underlying26;have HR0_1:=am_ hr0_1;have HC0_1:=am_ hc0_1;clear hr0_1 hc0_1;have HB:=am_ (Below.refl w.heap.size w);have H : ((spec_l22Good.f k a0_0 l0_1 a0_2).bind fun t246 => (if t246 = true then ((spec_l1Num.f k a0_0).bind fun t247 => (if t247.size + 5 ≤ 9223372036854775807 then (spec_ChargeText.l0 k (t247 ++ (⟨#[32,102,114,101,101]⟩ : ByteArray)) 0 a0_0 l0_1 a0_2) else (none))) else (some ((⟨#[]⟩ : ByteArray),false)))) = some (r1,r2):=h;clear h;replace H:=Option.bind_eq_some_iff.mp H;obtain ⟨t246,A20,H⟩ := H;replace H : (if t246 = true then ((spec_l1Num.f k a0_0).bind fun t247 => (if t247.size + 5 ≤ 9223372036854775807 then (spec_ChargeText.l0 k (t247 ++ (⟨#[32,102,114,101,101]⟩ : ByteArray)) 0 a0_0 l0_1 a0_2) else (none))) else (some ((⟨#[]⟩ : ByteArray),false))) = some (r1,r2):=H;have A2:=am_ A20;clear A20
 by_cases c3 : t246 = true
 ·subst c3
  have H1 : ((spec_l1Num.f k a0_0).bind fun t247 => (if t247.size + 5 ≤ 9223372036854775807 then (spec_ChargeText.l0 k (t247 ++ (⟨#[32,102,114,101,101]⟩ : ByteArray)) 0 a0_0 l0_1 a0_2) else (none))) = some (r1,r2):=by rw [if_pos rfl] at H;exact H
  clear H;have H:=H1;clear H1;replace H:=Option.bind_eq_some_iff.mp H;obtain ⟨t247,A40,H⟩ := H;replace H : (if t247.size + 5 ≤ 9223372036854775807 then (spec_ChargeText.l0 k (t247 ++ (⟨#[32,102,114,101,101]⟩ : ByteArray)) 0 a0_0 l0_1 a0_2) else (none)) = some (r1,r2):=H;have A4:=am_ A40;clear A40
  by_cases c5 : t247.size + 5 ≤ 9223372036854775807
  ·rw [if_pos c5] at H;have c5b0:=eq_true c5;have c5b1 : decide (t247.size + 5 ≤ 9223372036854775807) = true:=decide_eq_true c5
   try have c5b2 : (9223372036854775807 < t247.size + 5) = False:=eq_false (Nat.not_lt.2 c5)
   have H':=am_ H;clear H
   go_enter Tryz.func7,Tryz.ntmps7
   go_wp2_with (first | ((with_reducible refine gate_dst (N:=1) rfl ?_);refine box_event ?hg (N:=1) ?hd (cs:=#[.int .i64 a0_0, .slice A0_1 l0_1.length c0_1, .int .i64 a0_2]) (t:=26) ?hr ?_;(case hd => rfl);(case hg => rfl);(case hr => (go_simp;done));intro gb245 hg w6 hbox hb;have n0_:=am_ (below_step (by exact HB.out) hb);have n1_:=am_ hbox;have n2_:=am_ (ge_ hg (by exact HB.out));have n3_:=am_ (ge_ hg (by exact HB.out));clear HB;have HB:=n0_;have BK245:=n1_;have GW245:=n2_;have GE245:=n3_;clear n0_ n1_ n2_ n3_;clear hb hbox hg;have hcz7_0:=c3_0 BK245.out;have hcz7_1:=c3_1 BK245.out;have hcz7_2:=c3_2 BK245.out;have hfz7_0:=blk_frozen BK245.out 0;have hfz7_1:=blk_frozen BK245.out 1;have hfz7_2:=blk_frozen BK245.out 2) | ((with_reducible refine gate_callee (f:=21) rfl ?_);refine goesL_ (some 7) rfl rfl Tryz.func21 (by kernel_rfl) rfl #[.agg #[.int .i64 a0_0, .slice A0_1 l0_1.length c0_1, .int .i64 a0_2]] rfl (by (try simp only [List.map_toArray,List.map_cons,List.map_nil]);rfl) ?_;(with_reducible refine (spec_l22Good.calls k a0_0 _ _ l0_1 a0_2 true _ ?side1 ?side2 A2.out).mono ?_);(case side1 => repeat (exact (Kd.C_below HR0_1.out HB.out)));(case side2 => exact HC0_1.out);rintro e w8 ⟨rfl,hb⟩;refine ⟨_,rfl, ?_⟩;have n0_:=am_ (blk_below (by exact BK245.out) hb);have n1_:=am_ (below_step (by exact HB.out) hb);clear BK245;clear HB;have BK245:=n0_;have HB:=n1_;clear n0_ n1_;(try clear hb);have hcz9_0:=c3_0 BK245.out;have hcz9_1:=c3_1 BK245.out;have hcz9_2:=c3_2 BK245.out;have hfz9_0:=blk_frozen BK245.out 0;have hfz9_1:=blk_frozen BK245.out 1;have hfz9_2:=blk_frozen BK245.out 2) | ((with_reducible refine gate_callee (f:=22) rfl ?_);refine goesL_ (some 11) rfl rfl Tryz.func22 (by kernel_rfl) rfl #[.int .i64 a0_0] rfl (by (try simp only [List.map_toArray,List.map_cons,List.map_nil]);rfl) ?_;(with_reducible refine (spec_l1Num.calls k a0_0 t247 _ A4.out).mono ?_);rintro e w10 ⟨rfl,hb⟩;refine ⟨_,rfl, ?_⟩;have n0_:=am_ (blk_below (by exact BK245.out) hb);have n1_:=am_ (below_step (by exact HB.out) hb);clear BK245;clear HB;have BK245:=n0_;have HB:=n1_;clear n0_ n1_;(try clear hb)))
   (skip)
   go_loopg [4,5] k (fun kq v4 v5 w' => ∃ (x4_1 : ByteArray) (x5_1 : Int),v4 = .string x4_1 ∧ v5 = .int .i64 x5_1 ∧ Aside0 (spec_ChargeText.l0 kq x4_1 x5_1 a0_0 l0_1 a0_2 = some (r1,r2)) ∧ Aside0 (kq ≤ k) ∧ Aside0 (w'.heap[gb245]? = some (.cells #[.int .i64 a0_0,(.slice A0_1 l0_1.length c0_1), .int .i64 a0_2] 26 (0,0))) ∧ Aside0 (Below w.heap.size w w'))
   case atStart => exact ⟨(t247 ++ (⟨#[32,102,114,101,101]⟩ : ByteArray)),(0),(by rfl),(by rfl),H',⟨Nat.le_refl _⟩,⟨by exact BK245.out⟩,⟨by exact HB.out⟩⟩
   case round =>
    clear H';(try clear c2);(try clear p2);(try clear c3);(try clear c5);(try clear c5b0);(try clear c5b1);(try clear c5b2);(try clear c7);(try clear hcz7_0);(try clear hcz7_1);(try clear hcz7_2);(try clear hcz9_0);(try clear hcz9_1);(try clear hcz9_2);(try clear hfz7_0);(try clear hfz7_1);(try clear hfz7_2);(try clear hfz9_0);(try clear hfz9_1);(try clear hfz9_2);obtain ⟨x4_1,x5_1,rfl,rfl,HA,HK1,BK245,HB⟩ := hrel
    cases gk with
    | zero => exact absurd HA.out (by simp [spec_ChargeText.l0])
    | succ k1 =>
     have H:=HA.out;clear HA;simp only [spec_ChargeText.l0] at H
     by_cases c11 : x5_1 < (l0_1.length : Int)
     ·rw [if_pos c11] at H;have c11b0 : decide (x5_1 < (l0_1.length : Int)) = true:=decide_eq_true c11;clear c11
      by_cases c12 : x4_1.size + 2 ≤ 9223372036854775807
      ·rw [if_pos c12] at H;have c12b0:=eq_true c12;have c12b1 : decide (x4_1.size + 2 ≤ 9223372036854775807) = true:=decide_eq_true c12
       try have c12b2 : (9223372036854775807 < x4_1.size + 2) = False:=eq_false (Nat.not_lt.2 c12)
       by_cases c13 : 0 ≤ x5_1
       ·rw [if_pos c13] at H;have c13b0 : decide (0 ≤ x5_1) = true:=decide_eq_true c13;clear c13;replace H:=Option.bind_eq_some_iff.mp H;obtain ⟨t249,A140,H⟩ := H;replace H : (if (x4_1 ++ (⟨#[44,32]⟩ : ByteArray)).size + t249.size ≤ 9223372036854775807 then (if ((x4_1 ++ (⟨#[44,32]⟩ : ByteArray)) ++ t249).size + 3 ≤ 9223372036854775807 then ((spec_l1Num.f k1 ((rd_T45 l0_1 x5_1).f1)).bind fun t251 => (if (((x4_1 ++ (⟨#[44,32]⟩ : ByteArray)) ++ t249) ++ (⟨#[32,120,32]⟩ : ByteArray)).size + t251.size ≤ 9223372036854775807 then (spec_ChargeText.l0 k1 ((((x4_1 ++ (⟨#[44,32]⟩ : ByteArray)) ++ t249) ++ (⟨#[32,120,32]⟩ : ByteArray)) ++ t251) (wrap64 (x5_1 + 1)) a0_0 l0_1 a0_2) else (none))) else (none)) else (none)) = some (r1,r2):=H;have A14:=am_ A140;clear A140
        by_cases c15 : (x4_1 ++ (⟨#[44,32]⟩ : ByteArray)).size + t249.size ≤ 9223372036854775807
        ·rw [if_pos c15] at H;have c15b0:=eq_true c15;have c15b1 : decide ((x4_1 ++ (⟨#[44,32]⟩ : ByteArray)).size + t249.size ≤ 9223372036854775807) = true:=decide_eq_true c15
         try have c15b2 : (9223372036854775807 < (x4_1 ++ (⟨#[44,32]⟩ : ByteArray)).size + t249.size) = False:=eq_false (Nat.not_lt.2 c15)
         try have c15b4 : (9223372036854775807 < x4_1.size + 2 + t249.size) = False:=by have h_:=c15;simp only [ByteArray.size_append,show (⟨#[44,32]⟩ : ByteArray).size = 2 from rfl] at h_;exact eq_false (by omega)
         by_cases c16 : ((x4_1 ++ (⟨#[44,32]⟩ : ByteArray)) ++ t249).size + 3 ≤ 9223372036854775807
         ·rw [if_pos c16] at H;have c16b0:=eq_true c16;have c16b1 : decide (((x4_1 ++ (⟨#[44,32]⟩ : ByteArray)) ++ t249).size + 3 ≤ 9223372036854775807) = true:=decide_eq_true c16
          try have c16b2 : (9223372036854775807 < ((x4_1 ++ (⟨#[44,32]⟩ : ByteArray)) ++ t249).size + 3) = False:=eq_false (Nat.not_lt.2 c16)
          try have c16b4 : (9223372036854775807 < x4_1.size + 2 + t249.size + 3) = False:=by have h_:=c16;simp only [ByteArray.size_append,show (⟨#[44,32]⟩ : ByteArray).size = 2 from rfl] at h_;exact eq_false (by omega)
          replace H:=Option.bind_eq_some_iff.mp H;obtain ⟨t251,A170,H⟩ := H;replace H : (if (((x4_1 ++ (⟨#[44,32]⟩ : ByteArray)) ++ t249) ++ (⟨#[32,120,32]⟩ : ByteArray)).size + t251.size ≤ 9223372036854775807 then (spec_ChargeText.l0 k1 ((((x4_1 ++ (⟨#[44,32]⟩ : ByteArray)) ++ t249) ++ (⟨#[32,120,32]⟩ : ByteArray)) ++ t251) (wrap64 (x5_1 + 1)) a0_0 l0_1 a0_2) else (none)) = some (r1,r2):=H;have A17:=am_ A170;clear A170
          by_cases c18 : (((x4_1 ++ (⟨#[44,32]⟩ : ByteArray)) ++ t249) ++ (⟨#[32,120,32]⟩ : ByteArray)).size + t251.size ≤ 9223372036854775807
          ·rw [if_pos c18] at H;have c18b0:=eq_true c18;have c18b1 : decide ((((x4_1 ++ (⟨#[44,32]⟩ : ByteArray)) ++ t249) ++ (⟨#[32,120,32]⟩ : ByteArray)).size + t251.size ≤ 9223372036854775807) = true:=decide_eq_true c18
           try have c18b2 : (9223372036854775807 < (((x4_1 ++ (⟨#[44,32]⟩ : ByteArray)) ++ t249) ++ (⟨#[32,120,32]⟩ : ByteArray)).size + t251.size) = False:=eq_false (Nat.not_lt.2 c18)
           try have c18b4 : (9223372036854775807 < x4_1.size + 2 + t249.size + 3 + t251.size) = False:=by have h_:=c18;simp only [ByteArray.size_append,show (⟨#[32,120,32]⟩ : ByteArray).size = 3 from rfl,show (⟨#[44,32]⟩ : ByteArray).size = 2 from rfl] at h_;exact eq_false (by omega)
           have H':=am_ H;clear H;have hcz19_0:=c3_0 BK245.out;have hcz19_1:=c3_1 BK245.out;have hcz19_2:=c3_2 BK245.out;have hfz19_0:=blk_frozen BK245.out 0;have hfz19_1:=blk_frozen BK245.out 1;have hfz19_2:=blk_frozen BK245.out 2
           try go_wp2
           have n0_:=am_ (blk_drew BK245.out);have n1_:=am_ (below_drew1 HB.out);clear BK245;clear HB;have BK245:=n0_;have HB:=n1_;clear n0_ n1_;have p248 : 0 ≤ (x5_1 : Int):=of_decide_eq_true (by (with_reducible assumption));have q248 : x5_1 < (l0_1.length : Int):=of_decide_eq_true (by (with_reducible assumption));obtain ⟨ad248,e248,hx248_0,hx248_1⟩ := at_T45 HR0_1.out x5_1 p248 q248;have hw248_1:=hx248_1;have hw248_0:=hx248_0;cases e248;replace hx248_0:=(HB.out.cell (World.block_lt_of_cell? w _ hx248_0)).trans hx248_0;replace hx248_1:=(HB.out.cell (World.block_lt_of_cell? w _ hx248_1)).trans hx248_1;replace p248:=eq_true p248;replace q248:=eq_true q248;have p250 : 0 ≤ (x5_1 : Int):=of_decide_eq_true (by (with_reducible assumption));have q250 : x5_1 < (l0_1.length : Int):=of_decide_eq_true (by (with_reducible assumption));obtain ⟨ad250,e250,hx250_0,hx250_1⟩ := at_T45 HR0_1.out x5_1 p250 q250;have hw250_1:=hx250_1;have hw250_0:=hx250_0;obtain rfl : ad248 = ad250:=(by injection e250);replace hx250_0:=(HB.out.cell (World.block_lt_of_cell? w _ hx250_0)).trans hx250_0;replace hx250_1:=(HB.out.cell (World.block_lt_of_cell? w _ hx250_1)).trans hx250_1;replace p250:=eq_true p250;replace q250:=eq_true q250
           refine start_ (n:=20) (S:=fun w' => w'.cell? ⟨gb245,0,none⟩ = some (.int .i64 a0_0) ∧ w'.cell? ⟨gb245,1,none⟩ = some (.slice (some ad248) l0_1.length c0_1) ∧ w'.cell? ⟨gb245,2,none⟩ = some (.int .i64 a0_2) ∧ w'.cell? (ad248.add ((x5_1).toNat * 2)) = some (.int .i64 ((rd_T45 l0_1 x5_1).f0)) ∧ w'.cell? ⟨(ad248.add ((x5_1).toNat * 2)).block,(ad248.add ((x5_1).toNat * 2)).off + 1,none⟩ = some (.int .i64 ((rd_T45 l0_1 x5_1).f1)) ∧ w'.cell? (ad248.add ((x5_1).toNat * 2)) = some (.int .i64 ((rd_T45 l0_1 x5_1).f0)) ∧ w'.cell? ⟨(ad248.add ((x5_1).toNat * 2)).block,(ad248.add ((x5_1).toNat * 2)).off + 1,none⟩ = some (.int .i64 ((rd_T45 l0_1 x5_1).f1))) (ds := []) #[false,false,false,false,false,false,false,false,false,false,false,false,false,false,false,false,false,false,false,false] (by kernel_rfl) rfl rfl ⟨(blk_cell BK245.out 0).trans rfl,(blk_cell BK245.out 1).trans rfl,(blk_cell BK245.out 2).trans rfl,((HB.out.cell (World.block_lt_of_cell? w _ hw248_0)).trans hw248_0),((HB.out.cell (World.block_lt_of_cell? w _ hw248_1)).trans hw248_1),((HB.out.cell (World.block_lt_of_cell? w _ hw250_0)).trans hw250_0),((HB.out.cell (World.block_lt_of_cell? w _ hw250_1)).trans hw250_1)⟩ (fun hHeld => ?_);refine with_tabW spec_ChargeText.tab7 spec_ChargeText.bits7 (fun HT_ HW_ => ?_)
           generalize wr.drew = w20 at BK245 HB hx248_0 hx248_1 hx250_0 hx250_1 hHeld ⊢;refine pure_ (i:=0) (N:=some 20) (v:=?_) (a':=?_) #[true,false,false,false,false,false,false,false,false,false,false,false,false,false,false,false,false,false,false,false] rfl rfl (any_of HT_.out (by kernel_rfl)) (fun _ _ _ h => h) (Or.inl ⟨by rfl, ?_⟩) ?_ ?_
           rotate_left
           ·intro w'
            go_simp
            with_reducible rfl
           rotate_left
           ·simp only [Act.put,sA_,s0_,s1_,i64_w,i32_w]
            rfl
           refine pure_ (i:=1) (N:=some 21) (v:=?_) (a':=?_) #[true,true,false,false,false,false,false,false,false,false,false,false,false,false,false,false,false,false,false,false] rfl rfl (any_of HT_.out (by kernel_rfl)) (fun _ _ _ h => h) (Or.inl ⟨by rfl, ?_⟩) ?_ ?_
           rotate_left
           ·intro w'
            go_simp
            with_reducible rfl
           rotate_left
           ·simp only [Act.put,sA_,s0_,s1_,i64_w,i32_w]
            rfl
           refine pure_ (i:=2) (N:=some 22) (v:=?_) (a':=?_) #[true,true,true,false,false,false,false,false,false,false,false,false,false,false,false,false,false,false,false,false] rfl rfl (any_of HT_.out (by kernel_rfl)) (fun _ _ _ h => h) (Or.inl ⟨by rfl, ?_⟩) ?_ ?_
           rotate_left
           ·intro w'
            go_simp
            with_reducible rfl
           rotate_left
           ·simp only [Act.put,sA_,s0_,s1_,i64_w,i32_w]
            rfl
           refine pure_ (i:=4) (N:=some 24) (v:=?_) (a':=?_) #[true,true,true,false,true,false,false,false,false,false,false,false,false,false,false,false,false,false,false,false] rfl rfl (any_of HT_.out (by kernel_rfl)) (fun _ _ _ h => h) (Or.inl ⟨by rfl, ?_⟩) ?_ ?_
           rotate_left
           ·intro w'
            go_simp
            with_reducible rfl
           rotate_left
           ·simp only [Act.put,sA_,s0_,s1_,i64_w,i32_w]
            rfl
           refine pure_ (i:=11) (N:=some 31) (v:=?_) (a':=?_) #[true,true,true,false,true,false,false,false,false,false,false,true,false,false,false,false,false,false,false,false] rfl rfl (any_of HT_.out (by kernel_rfl)) (fun _ _ _ h => h) (Or.inl ⟨by rfl, ?_⟩) ?_ ?_
           rotate_left
           ·intro w'
            go_simp
            with_reducible rfl
           rotate_left
           ·simp only [Act.put,sA_,s0_,s1_,i64_w,i32_w]
            rfl
           refine pure_ (i:=13) (N:=some 33) (v:=?_) (a':=?_) #[true,true,true,false,true,false,false,false,false,false,false,true,false,true,false,false,false,false,false,false] rfl rfl (any_of HT_.out (by kernel_rfl)) (fun _ _ _ h => h) (Or.inl ⟨by rfl, ?_⟩) ?_ ?_
           rotate_left
           ·intro w'
            go_simp
            with_reducible rfl
           rotate_left
           ·simp only [Act.put,sA_,s0_,s1_,i64_w,i32_w]
            rfl
           refine take_ (i:=3) (N:=some 23) (v:=?_) (a':=?_) #[true,true,true,true,true,false,false,false,false,false,false,true,false,true,false,false,false,false,false,false] rfl rfl (take_ofW HT_.out HW_.out (by kernel_rfl)) (fun _ _ _ h => h) (Or.inl ⟨by rfl, ?_⟩) hHeld ?_ ?_
           rotate_left
           ·rintro w' ⟨s0,s1,s2,s3,s4,s5,s6⟩
            go_simp
            with_reducible rfl
           rotate_left
           ·simp only [Act.put,sA_,s0_,s1_,i64_w,i32_w]
            rfl
           refine pure_ (i:=5) (N:=some 25) (v:=?_) (a':=?_) #[true,true,true,true,true,true,false,false,false,false,false,true,false,true,false,false,false,false,false,false] rfl rfl (any_of HT_.out (by kernel_rfl)) (fun _ _ _ h => h) (Or.inl ⟨by rfl, ?_⟩) ?_ ?_
           rotate_left
           ·intro w'
            go_simp
            with_reducible rfl
           rotate_left
           ·simp only [Act.put,sA_,s0_,s1_,i64_w,i32_w]
            rfl
           refine pure_ (i:=6) (N:=some 26) (v:=?_) (a':=?_) #[true,true,true,true,true,true,true,false,false,false,false,true,false,true,false,false,false,false,false,false] rfl rfl (any_of HT_.out (by kernel_rfl)) (fun _ _ _ h => h) (Or.inl ⟨by rfl, ?_⟩) ?_ ?_
           rotate_left
           ·intro w'
            go_simp
            with_reducible rfl
           rotate_left
           ·simp only [Act.put,sA_,s0_,s1_,i64_w,i32_w]
            rfl
           refine take_ (i:=7) (N:=some 27) (v:=?_) (a':=?_) #[true,true,true,true,true,true,true,true,false,false,false,true,false,true,false,false,false,false,false,false] rfl rfl (take_ofW HT_.out HW_.out (by kernel_rfl)) (fun _ _ _ h => h) (Or.inl ⟨by rfl, ?_⟩) hHeld ?_ ?_
           rotate_left
           ·rintro w' ⟨s0,s1,s2,s3,s4,s5,s6⟩
            go_simp
            with_reducible rfl
           rotate_left
           ·simp only [Act.put,sA_,s0_,s1_,i64_w,i32_w]
            rfl
           refine take_ (i:=12) (N:=some 32) (v:=?_) (a':=?_) #[true,true,true,true,true,true,true,true,false,false,false,true,true,true,false,false,false,false,false,false] rfl rfl (take_ofW HT_.out HW_.out (by kernel_rfl)) (fun _ _ _ h => h) (Or.inl ⟨by rfl, ?_⟩) hHeld ?_ ?_
           rotate_left
           ·rintro w' ⟨s0,s1,s2,s3,s4,s5,s6⟩
            go_simp
            with_reducible rfl
           rotate_left
           ·simp only [Act.put,sA_,s0_,s1_,i64_w,i32_w]
            rfl
           refine pure_ (i:=14) (N:=some 34) (v:=?_) (a':=?_) #[true,true,true,true,true,true,true,true,false,false,false,true,true,true,true,false,false,false,false,false] rfl rfl (any_of HT_.out (by kernel_rfl)) (fun _ _ _ h => h) (Or.inl ⟨by rfl, ?_⟩) ?_ ?_
           rotate_left
           ·intro w'
            go_simp
            with_reducible rfl
           rotate_left
           ·simp only [Act.put,sA_,s0_,s1_,i64_w,i32_w]
            rfl
           refine pure_ (i:=15) (N:=some 35) (v:=?_) (a':=?_) #[true,true,true,true,true,true,true,true,false,false,false,true,true,true,true,true,false,false,false,false] rfl rfl (any_of HT_.out (by kernel_rfl)) (fun _ _ _ h => h) (Or.inl ⟨by rfl, ?_⟩) ?_ ?_
           rotate_left
           ·intro w'
            go_simp
            with_reducible rfl
           rotate_left
           ·simp only [Act.put,sA_,s0_,s1_,i64_w,i32_w]
            rfl
           refine take_ (i:=16) (N:=some 36) (v:=?_) (a':=?_) #[true,true,true,true,true,true,true,true,false,false,false,true,true,true,true,true,true,false,false,false] rfl rfl (take_ofW HT_.out HW_.out (by kernel_rfl)) (fun _ _ _ h => h) (Or.inl ⟨by rfl, ?_⟩) hHeld ?_ ?_
           rotate_left
           ·rintro w' ⟨s0,s1,s2,s3,s4,s5,s6⟩
            go_simp
            with_reducible rfl
           rotate_left
           ·simp only [Act.put,sA_,s0_,s1_,i64_w,i32_w]
            rfl
           refine one_ (i:=8) (N:=some 28) #[true,true,true,true,true,true,true,true,true,false,false,true,true,true,true,true,true,false,false,false] rfl rfl (one_of HT_.out (by kernel_rfl)) (by decide) (fun K hK => ?_);refine goes_ Tryz.func22 (by kernel_rfl) rfl #[.int .i64 ((rd_T45 l0_1 x5_1).f0)] (by rfl) rfl rfl (by (try simp only [List.map_toArray,List.map_cons,List.map_nil]);rfl) ?_
           with_reducible refine (spec_l1Num.calls k1 ((rd_T45 l0_1 x5_1).f0) t249 _ A14.out).mono ?_
           rintro e w21 ⟨rfl,hb⟩;refine ⟨_,rfl, ?_⟩;have n0_:=am_ (blk_below (by exact BK245.out) hb);have n1_:=am_ (below_step (by exact HB.out) hb);clear BK245;clear HB;have BK245:=n0_;have HB:=n1_;clear n0_ n1_;(try clear hb)
           (skip)
           (skip)
           (skip)
           refine hK.out _ _ ⟨(blk_cell BK245.out 0).trans rfl,(blk_cell BK245.out 1).trans rfl,(blk_cell BK245.out 2).trans rfl,((HB.out.cell (World.block_lt_of_cell? w _ hw248_0)).trans hw248_0),((HB.out.cell (World.block_lt_of_cell? w _ hw248_1)).trans hw248_1),((HB.out.cell (World.block_lt_of_cell? w _ hw250_0)).trans hw250_0),((HB.out.cell (World.block_lt_of_cell? w _ hw250_1)).trans hw250_1)⟩ (fun hHeld => ?_);clear hK K;refine norm_ (a':=?_) ?_ ?_
           rotate_left
           ·show Act.put _ (some 28) _ = _
            simp only [Act.put,sA_,s0_,s1_,i64_w,i32_w]
            rfl
           refine pure_ (i:=9) (N:=some 29) (v:=?_) (a':=?_) #[true,true,true,true,true,true,true,true,true,true,false,true,true,true,true,true,true,false,false,false] rfl rfl (any_of HT_.out (by kernel_rfl)) (fun _ _ _ h => h) (Or.inl ⟨by rfl, ?_⟩) ?_ ?_
           rotate_left
           ·intro w'
            go_simp
            with_reducible rfl
           rotate_left
           ·simp only [Act.put,sA_,s0_,s1_,i64_w,i32_w]
            rfl
           refine pure_ (i:=10) (N:=some 30) (v:=?_) (a':=?_) #[true,true,true,true,true,true,true,true,true,true,true,true,true,true,true,true,true,false,false,false] rfl rfl (any_of HT_.out (by kernel_rfl)) (fun _ _ _ h => h) (Or.inl ⟨by rfl, ?_⟩) ?_ ?_
           rotate_left
           ·intro w'
            go_simp
            with_reducible rfl
           rotate_left
           ·simp only [Act.put,sA_,s0_,s1_,i64_w,i32_w]
            rfl
           refine one_ (i:=17) (N:=some 37) #[true,true,true,true,true,true,true,true,true,true,true,true,true,true,true,true,true,true,false,false] rfl rfl (one_of HT_.out (by kernel_rfl)) (by decide) (fun K hK => ?_);refine goes_ Tryz.func22 (by kernel_rfl) rfl #[.int .i64 ((rd_T45 l0_1 x5_1).f1)] (by rfl) rfl rfl (by (try simp only [List.map_toArray,List.map_cons,List.map_nil]);rfl) ?_
           with_reducible refine (spec_l1Num.calls k1 ((rd_T45 l0_1 x5_1).f1) t251 _ A17.out).mono ?_
           rintro e w22 ⟨rfl,hb⟩;refine ⟨_,rfl, ?_⟩;have n0_:=am_ (blk_below (by exact BK245.out) hb);have n1_:=am_ (below_step (by exact HB.out) hb);clear BK245;clear HB;have BK245:=n0_;have HB:=n1_;clear n0_ n1_;(try clear hb)
           (skip)
           (skip)
           (skip)
           refine hK.out _ _ ⟨(blk_cell BK245.out 0).trans rfl,(blk_cell BK245.out 1).trans rfl,(blk_cell BK245.out 2).trans rfl,((HB.out.cell (World.block_lt_of_cell? w _ hw248_0)).trans hw248_0),((HB.out.cell (World.block_lt_of_cell? w _ hw248_1)).trans hw248_1),((HB.out.cell (World.block_lt_of_cell? w _ hw250_0)).trans hw250_0),((HB.out.cell (World.block_lt_of_cell? w _ hw250_1)).trans hw250_1)⟩ (fun hHeld => ?_);clear hK K;refine norm_ (a':=?_) ?_ ?_
           rotate_left
           ·show Act.put _ (some 37) _ = _
            simp only [Act.put,sA_,s0_,s1_,i64_w,i32_w]
            rfl
           refine pure_ (i:=18) (N:=some 38) (v:=?_) (a':=?_) #[true,true,true,true,true,true,true,true,true,true,true,true,true,true,true,true,true,true,true,false] rfl rfl (any_of HT_.out (by kernel_rfl)) (fun _ _ _ h => h) (Or.inl ⟨by rfl, ?_⟩) ?_ ?_
           rotate_left
           ·intro w'
            go_simp
            with_reducible rfl
           rotate_left
           ·simp only [Act.put,sA_,s0_,s1_,i64_w,i32_w]
            rfl
           refine pure_ (i:=19) (N:=some 4) (v:=?_) (a':=?_) #[true,true,true,true,true,true,true,true,true,true,true,true,true,true,true,true,true,true,true,true] rfl rfl (any_of HT_.out (by kernel_rfl)) (fun _ _ _ h => h) (Or.inl ⟨by rfl, ?_⟩) ?_ ?_
           rotate_left
           ·intro w'
            go_simp
            with_reducible rfl
           rotate_left
           ·simp only [Act.put,sA_,s0_,s1_,i64_w,i32_w]
            rfl
           refine done_ (done_of HT_.out (by kernel_rfl)) ?_
           try go_wp2
           go_roundg k1
           case measure => have:=HK1.out;omega
           case rel => exact ⟨((((x4_1 ++ (⟨#[44,32]⟩ : ByteArray)) ++ t249) ++ (⟨#[32,120,32]⟩ : ByteArray)) ++ t251),(wrap64 (x5_1 + 1)),(by rfl),(by rfl),H',⟨by have:=HK1.out;omega⟩,⟨by exact BK245.out⟩,⟨by exact HB.out⟩⟩
          ·rw [if_neg c18] at H
           exact absurd H (by simp)
         ·rw [if_neg c16] at H
          exact absurd H (by simp)
        ·rw [if_neg c15] at H
         exact absurd H (by simp)
       ·rw [if_neg c13] at H
        exact absurd H (by simp)
      ·rw [if_neg c12] at H
       exact absurd H (by simp)
     ·rw [if_neg c11] at H;have c11b0 : decide (x5_1 < (l0_1.length : Int)) = false:=decide_eq_false c11;clear c11
      by_cases c23 : x4_1.size + 8 ≤ 9223372036854775807
      ·rw [if_pos c23] at H;have c23b0:=eq_true c23;have c23b1 : decide (x4_1.size + 8 ≤ 9223372036854775807) = true:=decide_eq_true c23
       try have c23b2 : (9223372036854775807 < x4_1.size + 8) = False:=eq_false (Nat.not_lt.2 c23)
       replace H:=Option.bind_eq_some_iff.mp H;obtain ⟨t252,A240,H⟩ := H;replace H : (if (x4_1 ++ (⟨#[44,32,108,97,114,103,101,32]⟩ : ByteArray)).size + t252.size ≤ 9223372036854775807 then (some ((x4_1 ++ (⟨#[44,32,108,97,114,103,101,32]⟩ : ByteArray)) ++ t252,true)) else (none)) = some (r1,r2):=H;have A24:=am_ A240;clear A240
       by_cases c25 : (x4_1 ++ (⟨#[44,32,108,97,114,103,101,32]⟩ : ByteArray)).size + t252.size ≤ 9223372036854775807
       ·rw [if_pos c25] at H;have c25b0:=eq_true c25;have c25b1 : decide ((x4_1 ++ (⟨#[44,32,108,97,114,103,101,32]⟩ : ByteArray)).size + t252.size ≤ 9223372036854775807) = true:=decide_eq_true c25
        try have c25b2 : (9223372036854775807 < (x4_1 ++ (⟨#[44,32,108,97,114,103,101,32]⟩ : ByteArray)).size + t252.size) = False:=eq_false (Nat.not_lt.2 c25)
        try have c25b4 : (9223372036854775807 < x4_1.size + 8 + t252.size) = False:=by have h_:=c25;simp only [ByteArray.size_append,show (⟨#[44,32,108,97,114,103,101,32]⟩ : ByteArray).size = 8 from rfl] at h_;exact eq_false (by omega)
        simp only [Option.some.injEq,Prod.mk.injEq] at H;obtain ⟨rfl,rfl⟩ := H;have hcz26_0:=c3_0 BK245.out;have hcz26_1:=c3_1 BK245.out;have hcz26_2:=c3_2 BK245.out;have hfz26_0:=blk_frozen BK245.out 0;have hfz26_1:=blk_frozen BK245.out 1;have hfz26_2:=blk_frozen BK245.out 2
        go_wp2_with (((with_reducible refine gate_callee (f:=22) rfl ?_);refine goesL_ (some 43) rfl rfl Tryz.func22 (by kernel_rfl) rfl #[.int .i64 a0_2] rfl (by (try simp only [List.map_toArray,List.map_cons,List.map_nil]);rfl) ?_;(with_reducible refine (spec_l1Num.calls k1 a0_2 t252 _ A24.out).mono ?_);rintro e w27 ⟨rfl,hb⟩;refine ⟨_,rfl, ?_⟩;have n0_:=am_ (blk_below (by exact BK245.out) hb);have n1_:=am_ (below_step (by exact HB.out) hb);clear BK245;clear HB;have BK245:=n0_;have HB:=n1_;clear n0_ n1_;(try clear hb)))
        go_ret2
        exact ⟨by rfl,by exact HB.out⟩
       ·rw [if_neg c25] at H
        exact absurd H (by simp)
      ·rw [if_neg c23] at H
       exact absurd H (by simp)
  ·rw [if_neg c5] at H
   exact absurd H (by simp)
 ·replace c3:=Bool.eq_false_iff.mpr c3;subst c3
  have H1 : (some ((⟨#[]⟩ : ByteArray),false)) = some (r1,r2):=by rw [if_neg (show ¬ (false = true) by decide)] at H;exact H
  clear H;have H:=H1;clear H1;simp only [Option.some.injEq,Prod.mk.injEq] at H;obtain ⟨rfl,rfl⟩ := H
  go_enter Tryz.func7,Tryz.ntmps7
  go_wp2_with (first | ((with_reducible refine gate_dst (N:=1) rfl ?_);refine box_event ?hg (N:=1) ?hd (cs:=#[.int .i64 a0_0, .slice A0_1 l0_1.length c0_1, .int .i64 a0_2]) (t:=26) ?hr ?_;(case hd => rfl);(case hg => rfl);(case hr => (go_simp;done));intro gb245 hg w28 hbox hb;have n0_:=am_ (below_step (by exact HB.out) hb);have n1_:=am_ hbox;have n2_:=am_ (ge_ hg (by exact HB.out));have n3_:=am_ (ge_ hg (by exact HB.out));clear HB;have HB:=n0_;have BK245:=n1_;have GW245:=n2_;have GE245:=n3_;clear n0_ n1_ n2_ n3_;clear hb hbox hg;have hcz29_0:=c3_0 BK245.out;have hcz29_1:=c3_1 BK245.out;have hcz29_2:=c3_2 BK245.out;have hfz29_0:=blk_frozen BK245.out 0;have hfz29_1:=blk_frozen BK245.out 1;have hfz29_2:=blk_frozen BK245.out 2) | ((with_reducible refine gate_callee (f:=21) rfl ?_);refine goesL_ (some 7) rfl rfl Tryz.func21 (by kernel_rfl) rfl #[.agg #[.int .i64 a0_0, .slice A0_1 l0_1.length c0_1, .int .i64 a0_2]] rfl (by (try simp only [List.map_toArray,List.map_cons,List.map_nil]);rfl) ?_;(with_reducible refine (spec_l22Good.calls k a0_0 _ _ l0_1 a0_2 false _ ?side1 ?side2 A2.out).mono ?_);(case side1 => repeat (exact (Kd.C_below HR0_1.out HB.out)));(case side2 => exact HC0_1.out);rintro e w30 ⟨rfl,hb⟩;refine ⟨_,rfl, ?_⟩;have n0_:=am_ (blk_below (by exact BK245.out) hb);have n1_:=am_ (below_step (by exact HB.out) hb);clear BK245;clear HB;have BK245:=n0_;have HB:=n1_;clear n0_ n1_;(try clear hb)))
  go_ret2
  exact ⟨by rfl,by exact HB.out⟩
















/-! ### strings_Split: function 23 -/
def strings_Split.f (a0 : ByteArray) (a1 : ByteArray) : Option (List ByteArray):=if a0.size < 4294967281 ∧ 1 ≤ a1.size then some (Lib.splitB a1 0 (Lib.countB a0 a1) a0) else none
theorem strings_Split.calls (a0 : ByteArray) (a1 : ByteArray) (r : List ByteArray) (w : World) (hT : Go.Proofs.YtciecfaeeogdoaaGreatDoorW.Met.Met w) (h : strings_Split.f a0 a1 = some r) :
  Calls Tryz.prog 23 #[.string a0, .string a1] w fun e w' => ∃ v0_ : Value,e = .returned (v0_) ∧ Kd.R Kd.string 9 w' w.heap.size (fun _ => True) v0_ r ∧ Below w.heap.size w w':=by
 unfold strings_Split.f at h
 by_cases hc : a0.size < 4294967281 ∧ 1 ≤ a1.size
 ·rw [if_pos hc] at h;obtain rfl:=Option.some.inj h;obtain ⟨m,hm⟩ := hT.2.1;have hl:=Lib.splitB_all a1 hc.2 0 _ a0 rfl;have hcl:=Lib.countB_le a1 hc.2 _ a0 (Nat.le_refl _)
  refine (Tryz.strings_Split a0 a1 m w hc.1 hm hc.2).mono fun e w' ⟨he,hw⟩ => ⟨_,he, ?_, ?_⟩
  ·subst hw;refine Kd.R_of_own ?_ (fun _ _ => trivial);refine ⟨by simp [encs],Or.inr ⟨w.heap.size,Lib.countB a0 a1 + 1,((Lib.splitB a1 0 (Lib.countB a0 a1) a0).map Value.string).toArray,by rw [hl],Nat.le_refl _,Array.getElem?_push_size,Nat.le_of_eq hl,by unfold maxLen;omega,by rw [List.size_toArray,List.length_map,hl,Nat.mul_one], ?_⟩⟩;rw [hl,Nat.mul_one,List.toList_toArray]
   exact List.take_of_length_le (by rw [List.length_map,hl];exact Nat.le_refl _)
  ·subst hw
   exact below_alloc (Below.refl _ _) _
 ·rw [if_neg hc] at h;cases h














/-! ### impl_ParseInt: function 24 -/
def atoiOf (s : ByteArray) : Option Int:=match Lib.atoiAll s.data.toList with | .ok v => some v | _ => none
def impl_ParseInt.f (a0 : ByteArray) : Option (Int × Bool):=if a0.size ≤ 281474976710656 then (match atoiOf a0 with | some v => (impl_within.f v (-999999) 999999).bind fun t1 => (if t1 = true then ((impl_decimal.f v).bind fun t2 => (if t2.toList = a0.toList then some (v,true) else some (0,false))) else some (0,false)) | none => some (0,false)) else none
set_option maxHeartbeats 8000000 in
set_option maxRecDepth 100000 in
theorem atoi_calls (a0 : ByteArray) (w : World) (hT : Go.Proofs.YtciecfaeeogdoaaGreatDoorW.Met.Met w) (hs : a0.size ≤ 281474976710656) :
  Calls Tryz.prog 49 #[.string a0] w fun e w' => ((∃ v,atoiOf a0 = some v ∧ e = .returned (.tuple #[.int .i64 v, .nilIface])) ∨ (atoiOf a0 = none ∧ ∃ (n : Int) (te : TypeId) (pe : Value),e = .returned (.tuple #[.int .i64 n, .iface te pe]))) ∧ Below w.heap.size w w':=by
 obtain ⟨_,_,⟨te,pe,hS⟩,⟨tr,pr,hR⟩⟩ := hT
 cases ha : Lib.atoiAll a0.data.toList with
 | ok v =>
  refine (Tryz.strconv_Atoi_ok a0 (by omega) v ha w).mono fun e w' ⟨he,hw⟩ => ⟨Or.inl ⟨v,by unfold atoiOf;rw [ha],he⟩, ?_⟩
  rcases hw with rfl | ⟨t,rfl⟩
  ·exact Below.refl _ _
  ·exact Lib.bytesWorld_below _ _ _
 | «syntax» =>
  refine (Tryz.strconv_Atoi_syntax a0 hs ha _ w hS (Or.inr ⟨te,pe,rfl⟩)).mono fun e w' ⟨n,he,_,_,hb⟩ => ⟨Or.inr ⟨by unfold atoiOf;rw [ha],_,_,_,he⟩,hb⟩
 | range =>
  refine (Tryz.strconv_Atoi_range a0 hs ha _ w hR (Or.inr ⟨tr,pr,rfl⟩)).mono fun e w' ⟨n,he,_,_,hb⟩ => ⟨Or.inr ⟨by unfold atoiOf;rw [ha],_,_,_,he⟩,hb⟩
set_option maxHeartbeats 8000000 in
set_option maxRecDepth 100000 in
theorem impl_ParseInt.calls (a0 : ByteArray) (r0 : Int) (r1 : Bool) (w : World) (hT : Go.Proofs.YtciecfaeeogdoaaGreatDoorW.Met.Met w) (h : impl_ParseInt.f a0 = some (r0,r1)) :
  Calls Tryz.prog 24 #[.string a0] w fun e w' => e = .returned (.tuple #[.int .i64 r0, .bool r1]) ∧ Below w.heap.size w w':=by
 unfold impl_ParseInt.f at h
 by_cases hs : a0.size ≤ 281474976710656
 ·rw [if_pos hs] at h;have HC:=am_ (atoi_calls a0 w hT hs);have HT:=am_ hT;clear hs hT
  cases ha : atoiOf a0 with
  | none =>
   rw [ha] at h HC;obtain ⟨rfl,rfl⟩ := Prod.mk.inj (Option.some.inj h);have HC1 : Aside0 (Calls Tryz.prog 49 #[.string a0] w fun e w' => (∃ (n : Int) (te : TypeId) (pe : Value),e = .returned (.tuple #[.int .i64 n, .iface te pe])) ∧ Below w.heap.size w w'):=⟨HC.out.mono fun e w' ⟨he,hb⟩ => ⟨he.elim (fun ⟨v,q,_⟩ => by cases q) (fun ⟨_,q⟩ => q),hb⟩⟩;clear HC h ha
   go_enter Tryz.func24,Tryz.ntmps24
   go_wp2_with ((go_at_call 49;refine HC1.out.mono ?_;rintro e w1 ⟨⟨n,te,pe,rfl⟩,hb⟩;have HB:=am_ hb;clear hb))
   go_ret2
   exact ⟨by first | rfl | (simp;done),HB.out⟩
  | some v =>
   rw [ha] at h HC;have HC1 : Aside0 (Calls Tryz.prog 49 #[.string a0] w fun e w' => e = .returned (.tuple #[.int .i64 v, .nilIface]) ∧ Below w.heap.size w w'):=⟨HC.out.mono fun e w' ⟨he,hb⟩ => ⟨he.elim (fun ⟨u,q,p⟩ => by injection q with q;subst q;exact p) (fun ⟨q,_⟩ => by cases q),hb⟩⟩;clear HC ha;replace h:=Option.bind_eq_some_iff.mp h;obtain ⟨t1,A20,h⟩ := h;have A2:=am_ A20;clear A20
   cases t1 with
   | false =>
    rw [if_neg (by decide)] at h;obtain ⟨rfl,rfl⟩ := Prod.mk.inj (Option.some.inj h);clear h
    go_enter Tryz.func24,Tryz.ntmps24
    go_wp2_with (first | (go_at_call 49;refine HC1.out.mono ?_;rintro e w1 ⟨rfl,hb⟩;have HB:=am_ hb;clear hb) | (go_at_call 41;(with_reducible refine (impl_within.calls v (-999999) 999999 _ _ A2.out).mono ?_);rintro e w' ⟨rfl,⟨nd,rfl⟩⟩))
    go_ret2
    exact ⟨by first | rfl | (simp;done),by repeat (first | (with_reducible first | exact HB.out | apply below_alloc | apply pw_below_drewN | apply below_drew1) | exact HB.out)⟩
   | true =>
    rw [if_pos rfl] at h;replace h:=Option.bind_eq_some_iff.mp h;obtain ⟨t2,A30,h⟩ := h;have A3:=am_ A30;clear A30
    by_cases c4 : t2.toList = a0.toList
    ·rw [if_pos c4] at h;have c4b0 : (t2.toList == a0.toList) = true:=beq_iff_eq.mpr c4;have c4b1 : (t2.toList != a0.toList) = false:=bne_eq_false_iff_eq.mpr c4;clear c4;obtain ⟨rfl,rfl⟩ := Prod.mk.inj (Option.some.inj h);clear h
     go_enter Tryz.func24,Tryz.ntmps24
     go_wp2_with (first | (go_at_call 49;refine HC1.out.mono ?_;rintro e w1 ⟨rfl,hb⟩;have HB:=am_ hb;clear hb) | (go_at_call 41;(with_reducible refine (impl_within.calls v (-999999) 999999 _ _ A2.out).mono ?_);rintro e w' ⟨rfl,⟨nd,rfl⟩⟩) | (go_at_call 46;(with_reducible refine (impl_decimal.calls (hT:=?sgT) v t2 _ A3.out).mono ?_);(case sgT => exact Go.Proofs.YtciecfaeeogdoaaGreatDoorW.Met.Met.below HT.out (by repeat ((with_reducible first | exact HB.out | apply pw_below_drewN))));rintro e w2 ⟨rfl,hb⟩;have n0_:=am_ (below_step (by repeat ((with_reducible first | exact HB.out | apply pw_below_drewN))) hb);clear HB;have HB:=n0_;clear n0_ hb))
     go_ret2
     exact ⟨by rfl,by exact HB.out⟩
    ·rw [if_neg c4] at h;have c4b0 : (t2.toList == a0.toList) = false:=beq_eq_false_iff_ne.mpr c4;have c4b1 : (t2.toList != a0.toList) = true:=bne_iff_ne.mpr c4;obtain ⟨rfl,rfl⟩ := Prod.mk.inj (Option.some.inj h);clear h
     go_enter Tryz.func24,Tryz.ntmps24
     go_wp2_with (first | (go_at_call 49;refine HC1.out.mono ?_;rintro e w1 ⟨rfl,hb⟩;have HB:=am_ hb;clear hb) | (go_at_call 41;(with_reducible refine (impl_within.calls v (-999999) 999999 _ _ A2.out).mono ?_);rintro e w' ⟨rfl,⟨nd,rfl⟩⟩) | (go_at_call 46;(with_reducible refine (impl_decimal.calls (hT:=?sgT) v t2 _ A3.out).mono ?_);(case sgT => exact Go.Proofs.YtciecfaeeogdoaaGreatDoorW.Met.Met.below HT.out (by repeat ((with_reducible first | exact HB.out | apply pw_below_drewN))));rintro e w2 ⟨rfl,hb⟩;have n0_:=am_ (below_step (by repeat ((with_reducible first | exact HB.out | apply pw_below_drewN))) hb);clear HB;have HB:=n0_;clear n0_ hb))
     go_ret2
     exact ⟨by rfl,by exact HB.out⟩
 ·rw [if_neg hs] at h;cases h

/-! ### stringslite_HasSuffix: function 68 -/
def stringslite_HasSuffix.f (a0 : ByteArray) (a1 : ByteArray) : Option (Bool):=if (a0.size : Int) ≥ (a1.size : Int) then (if 0 ≤ (wrap64 ((a0.size : Int) - (a1.size : Int))) then (if (wrap64 ((a0.size : Int) - (a1.size : Int))) ≤ (a0.size : Int) then (some ((a0.extract ((wrap64 ((a0.size : Int) - (a1.size : Int))) : Int).toNat a0.size).toList == a1.toList)) else (none)) else (none)) else (some false)
set_option maxHeartbeats 8000000 in
set_option maxRecDepth 100000 in
theorem stringslite_HasSuffix.calls (a0 : ByteArray) (a1 : ByteArray) (r : Bool) (w : World) (h : stringslite_HasSuffix.f a0 a1 = some r) :
  Calls Tryz.prog 68 #[.string a0, .string a1] w fun e w' => e = .returned (.bool r) ∧ Drawn0 w w':=by
 have H : (if (a0.size : Int) ≥ (a1.size : Int) then (if 0 ≤ (wrap64 ((a0.size : Int) - (a1.size : Int))) then (if (wrap64 ((a0.size : Int) - (a1.size : Int))) ≤ (a0.size : Int) then (some ((a0.extract ((wrap64 ((a0.size : Int) - (a1.size : Int))) : Int).toNat a0.size).toList == a1.toList)) else (none)) else (none)) else (some false)) = some r:=h;clear h
 by_cases c3 : (a0.size : Int) ≥ (a1.size : Int)
 ·rw [if_pos c3] at H;have c3b0 : decide ((a1.size : Int) ≤ (a0.size : Int)) = true:=decide_eq_true c3;have c3b1 : decide (a1.size ≤ a0.size) = true:=decide_eq_true (Int.ofNat_le.mp c3);clear c3;obtain ⟨ji4,hji4⟩ : ∃ j_ : Int,(wrap64 ((a0.size : Int) - (a1.size : Int))) = j_:=⟨_,rfl⟩
  replace H : (if 0 ≤ (ji4) then (if (ji4) ≤ (a0.size : Int) then (some ((a0.extract ((ji4) : Int).toNat a0.size).toList == a1.toList)) else (none)) else (none)) = some r:=by (rw [hji4] at H;exact H)
  have hji4w : (IntKind.i64.wrap ((a0.size : Int) - (a1.size : Int))) = ji4:=(i64_w _).trans hji4
  by_cases c5 : 0 ≤ (ji4)
  ·rw [if_pos c5] at H;have c5b0:=eq_true c5;have c5b1 : decide (0 ≤ (ji4)) = true:=decide_eq_true c5;clear c5
   by_cases c6 : (ji4) ≤ (a0.size : Int)
   ·rw [if_pos c6] at H;have c6b0:=eq_true c6;have c6b1 : decide ((ji4) ≤ (a0.size : Int)) = true:=decide_eq_true c6;clear c6;obtain rfl:=Option.some.inj H
    go_enter Tryz.func68,Tryz.ntmps68
    go_wp2
    go_ret
    exact ⟨by rfl,by repeat (exact Drawn0.refl _)⟩
   ·rw [if_neg c6] at H
    exact absurd H (by simp)
  ·rw [if_neg c5] at H
   exact absurd H (by simp)
 ·rw [if_neg c3] at H;have c3b0 : decide ((a1.size : Int) ≤ (a0.size : Int)) = false:=decide_eq_false c3;have c3b1 : decide (a1.size ≤ a0.size) = false:=decide_eq_false (fun h => c3 (Int.ofNat_le.mpr h));clear c3;obtain rfl:=Option.some.inj H
  go_enter Tryz.func68,Tryz.ntmps68
  go_wp2
  go_ret
  exact ⟨by rfl,by repeat (exact Drawn0.refl _)⟩

end Go.Proofs.YtciecfaeeogdoaaGreatDoor.PFnTariffs
