-- Written by a program of this session, over the kit's print (wip/xprint.py)
import Derived.Test.YtempmebpbbbkmaaPFnWagonsx0
import Derived.Test.YtempmebpbbbkmaaPFnWagonsx1
namespace Go.Proofs.Ytempmebpbbbkmaa.PFnWagons
open Go.RowKit Go.Proofs.YtempmebpbbbkmaaW.PrintWords Go.Proofs.YtempmebpbbbkmaaW.PrintLast Go.Proofs.YtempmebpbbbkmaaW.PrintMore
attribute [local go_sem] max2_int min2_int max_two min_two max_three min_three max_four min_four   -- for this text's walks alone
set_option linter.unusedVariables false
set_option linter.unusedSimpArgs false

/-! ### spec_l2Check: function 53 -/
def spec_l2Check.l0 : Nat → ByteArray → Int → Int → Option (Int)
 | 0,_,_,_ => none
 | k + 1,x0,x3,x4 => if x4 < 7 then (if 0 ≤ x4 then (if x4 < (x0.size : Int) then (if x4 < 3 then (spec_l2Check.l0 k x0 (wrap64 (x3 + (wrap64 ((wrap64 ((wrap64 ((wrap64 (bt x0 x4)) - 65)) + 1)) * (wrap64 (x4 + 2)))))) (wrap64 (x4 + 1))) else (spec_l2Check.l0 k x0 (wrap64 (x3 + (wrap64 ((wrap64 ((wrap64 (bt x0 x4)) - 48)) * (wrap64 (x4 + 2)))))) (wrap64 (x4 + 1)))) else (none)) else (none)) else (some ((65 + ((Int.tmod x3 23) % 256)) % 256))
def spec_l2Check.f (k : Nat) (a0 : ByteArray) : Option (Int):=spec_l2Check.l0 k a0 0 0
theorem spec_l2Check.mono_l : ∀ k,(∀ y0 y1 y2,LeO (spec_l2Check.l0 k y0 y1 y2) (spec_l2Check.l0 (k + 1) y0 y1 y2))
 | 0 => fun _ _ _ r h => by simp [spec_l2Check.l0] at h
 | k + 1 => by
  have ih0:=spec_l2Check.mono_l k
  ·intro y0 y1 y2
   unfold spec_l2Check.l0
   repeat' first
   | (with_reducible exact ih0 _ _ _)
   | (with_reducible exact LeO.refl _)
   | (with_reducible exact LeO.none _)
   | (with_reducible refine LeO.ite ?_ ?_)
   | (with_reducible refine LeO.bind ?_ (fun _ => ?_))
   | exact ih0 _ _ _
   | exact LeO.none _
   | refine LeO.ite ?_ ?_
   | refine LeO.bind ?_ (fun _ => ?_)
theorem spec_l2Check.mono : ∀ a0 k,LeO (spec_l2Check.f k a0) (spec_l2Check.f (k + 1) a0):=by
 intro a0 k
 have ih0:=spec_l2Check.mono_l k
 unfold spec_l2Check.f
 repeat' first
   | (with_reducible exact ih0 _ _ _)
   | (with_reducible exact LeO.refl _)
   | (with_reducible exact LeO.none _)
   | (with_reducible refine LeO.ite ?_ ?_)
   | (with_reducible refine LeO.bind ?_ (fun _ => ?_))
   | exact ih0 _ _ _
   | exact LeO.none _
   | refine LeO.ite ?_ ?_
   | refine LeO.bind ?_ (fun _ => ?_)
set_option maxHeartbeats 8000000 in
set_option maxRecDepth 100000 in
theorem spec_l2Check.calls (k : Nat) (a0 : ByteArray) (r : Int) (w : World) (h : spec_l2Check.f k a0 = some r) :
  Calls Try.prog 53 #[.string a0] w fun e w' => e = .returned (.int .u8 r) ∧ Drawn0 w w':=by
 have H : (spec_l2Check.l0 k a0 0 0) = some r:=h
 clear h
 have H':=Aside0.mk H
 clear H
 go_enter Try.func53,Try.ntmps53
 go_wp2
 go_loopg [3,4] k (fun kq v3 v4 w' => ∃ (x3_1 : Int) (x4_1 : Int),v3 = .int .i64 x3_1 ∧ v4 = .int .i64 x4_1 ∧ Aside0 (spec_l2Check.l0 kq a0 x3_1 x4_1 = some r) ∧ Aside0 (kq ≤ k) ∧ Drawn0 w w')
 case atStart => exact ⟨(0),(0),(by rfl),(by rfl),H',⟨Nat.le_refl _⟩,by repeat (exact Drawn0.refl _)⟩
 case round =>
  clear H'
  obtain ⟨x3_1,x4_1,rfl,rfl,HA,HK1,⟨m1,rfl⟩⟩ := hrel
  cases gk with
  | zero => exact absurd HA.out (by simp [spec_l2Check.l0])
  | succ k1 =>
   have H:=HA.out
   clear HA
   simp only [spec_l2Check.l0] at H
   by_cases c2 : x4_1 < 7
   ·rw [if_pos c2] at H
    have c2b0 : decide (x4_1 < 7) = true:=decide_eq_true c2
    clear c2
    by_cases c3 : 0 ≤ x4_1
    ·rw [if_pos c3] at H
     have c3b0 : decide (0 ≤ x4_1) = true:=decide_eq_true c3
     clear c3
     by_cases c4 : x4_1 < (a0.size : Int)
     ·rw [if_pos c4] at H
      have c4b0 : decide (x4_1 < (a0.size : Int)) = true:=decide_eq_true c4
      clear c4
      by_cases c6 : x4_1 < 3
      ·rw [if_pos c6] at H
       have c6b0 : decide (x4_1 < 3) = true:=decide_eq_true c6
       clear c6
       have H':=Aside0.mk H
       clear H
       have p5 : 0 ≤ (x4_1 : Int):=of_decide_eq_true (by (with_reducible assumption))
       have q5 : x4_1 < (a0.size : Int):=of_decide_eq_true (by (with_reducible assumption))
       have hx5:=bt_at a0 x4_1
       replace p5:=eq_true p5
       replace q5:=eq_true q5
       have p7 : 0 ≤ (x4_1 : Int):=of_decide_eq_true (by (with_reducible assumption))
       have q7 : x4_1 < (a0.size : Int):=of_decide_eq_true (by (with_reducible assumption))
       have hx7:=bt_at a0 x4_1
       replace p7:=eq_true p7
       replace q7:=eq_true q7
       go_wp2
       go_roundg k1
       case measure => have:=HK1.out;omega
       case rel => exact ⟨(wrap64 (x3_1 + (wrap64 ((wrap64 ((wrap64 ((wrap64 (bt a0 x4_1)) - 65)) + 1)) * (wrap64 (x4_1 + 2)))))),(wrap64 (x4_1 + 1)),(by rfl),(by rfl),H',⟨by have:=HK1.out;omega⟩,by repeat (first | exact Drawn0.refl _ | apply Drawn0.step)⟩
      ·rw [if_neg c6] at H
       have c6b0 : decide (x4_1 < 3) = false:=decide_eq_false c6
       clear c6
       have H':=Aside0.mk H
       clear H
       have p5 : 0 ≤ (x4_1 : Int):=of_decide_eq_true (by (with_reducible assumption))
       have q5 : x4_1 < (a0.size : Int):=of_decide_eq_true (by (with_reducible assumption))
       have hx5:=bt_at a0 x4_1
       replace p5:=eq_true p5
       replace q5:=eq_true q5
       go_wp2
       go_roundg k1
       case measure => have:=HK1.out;omega
       case rel => exact ⟨(wrap64 (x3_1 + (wrap64 ((wrap64 ((wrap64 (bt a0 x4_1)) - 48)) * (wrap64 (x4_1 + 2)))))),(wrap64 (x4_1 + 1)),(by rfl),(by rfl),H',⟨by have:=HK1.out;omega⟩,by repeat (first | exact Drawn0.refl _ | apply Drawn0.step)⟩
     ·rw [if_neg c4] at H
      exact absurd H (by simp)
    ·rw [if_neg c3] at H
     exact absurd H (by simp)
   ·rw [if_neg c2] at H
    have c2b0 : decide (x4_1 < 7) = false:=decide_eq_false c2
    clear c2
    obtain rfl:=Option.some.inj H
    go_wp2
    go_ret
    exact ⟨by rfl,by repeat (first | exact Drawn0.refl _ | apply Drawn0.step)⟩

/-! ### spec_l2Number: function 37 -/
def spec_l2Number.l0 : Nat → Int → ByteArray → Int → Option (ByteArray)
 | 0,_,_,_ => none
 | k + 1,x1,x5,x6 => if x6 > 0 then (if x6 = 0 then (none) else (if 0 ≤ (Int.tmod (wrap64 (Int.tdiv x1 x6)) 10) then (if (Int.tmod (wrap64 (Int.tdiv x1 x6)) 10) ≤ (wrap64 ((Int.tmod (wrap64 (Int.tdiv x1 x6)) 10) + 1)) then (if (wrap64 ((Int.tmod (wrap64 (Int.tdiv x1 x6)) 10) + 1)) ≤ 10 then (if x5.size + ((⟨#[48,49,50,51,52,53,54,55,56,57]⟩ : ByteArray).extract ((Int.tmod (wrap64 (Int.tdiv x1 x6)) 10) : Int).toNat ((wrap64 ((Int.tmod (wrap64 (Int.tdiv x1 x6)) 10) + 1)) : Int).toNat).size ≤ 9223372036854775807 then (spec_l2Number.l0 k x1 (x5 ++ ((⟨#[48,49,50,51,52,53,54,55,56,57]⟩ : ByteArray).extract ((Int.tmod (wrap64 (Int.tdiv x1 x6)) 10) : Int).toNat ((wrap64 ((Int.tmod (wrap64 (Int.tdiv x1 x6)) 10) + 1)) : Int).toNat)) (wrap64 (Int.tdiv x6 10))) else (none)) else (none)) else (none)) else (none))) else ((spec_l2Check.f k x5).bind fun t161 => ((some (([t161] : List Int) : List Int)).bind fun y162 => (if x5.size + (strOfNums y162).size ≤ 9223372036854775807 then (some (x5 ++ (strOfNums y162))) else (none))))
def spec_l2Number.f (k : Nat) (a0 : ByteArray) (a1 : Int) : Option (ByteArray):=spec_l2Number.l0 k a1 a0 1000
theorem spec_l2Number.mono_l : ∀ k,(∀ y0 y1 y2,LeO (spec_l2Number.l0 k y0 y1 y2) (spec_l2Number.l0 (k + 1) y0 y1 y2))
 | 0 => fun _ _ _ r h => by simp [spec_l2Number.l0] at h
 | k + 1 => by
  have ih0:=spec_l2Number.mono_l k
  ·intro y0 y1 y2
   unfold spec_l2Number.l0
   repeat' first
   | (with_reducible exact ih0 _ _ _)
   | (with_reducible exact spec_l2Check.mono _ _)
   | (with_reducible exact LeO.refl _)
   | (with_reducible exact LeO.none _)
   | (with_reducible refine LeO.ite ?_ ?_)
   | (with_reducible refine LeO.bind ?_ (fun _ => ?_))
   | exact ih0 _ _ _
   | exact spec_l2Check.mono _ _
   | exact LeO.none _
   | refine LeO.ite ?_ ?_
   | refine LeO.bind ?_ (fun _ => ?_)
theorem spec_l2Number.mono : ∀ a0 a1 k,LeO (spec_l2Number.f k a0 a1) (spec_l2Number.f (k + 1) a0 a1):=by
 intro a0 a1 k
 have ih0:=spec_l2Number.mono_l k
 unfold spec_l2Number.f
 repeat' first
   | (with_reducible exact ih0 _ _ _)
   | (with_reducible exact spec_l2Check.mono _ _)
   | (with_reducible exact LeO.refl _)
   | (with_reducible exact LeO.none _)
   | (with_reducible refine LeO.ite ?_ ?_)
   | (with_reducible refine LeO.bind ?_ (fun _ => ?_))
   | exact ih0 _ _ _
   | exact spec_l2Check.mono _ _
   | exact LeO.none _
   | refine LeO.ite ?_ ?_
   | refine LeO.bind ?_ (fun _ => ?_)
set_option maxHeartbeats 8000000 in
set_option maxRecDepth 100000 in
theorem spec_l2Number.calls (k : Nat) (a0 : ByteArray) (a1 : Int) (r : ByteArray) (w : World) (h : spec_l2Number.f k a0 a1 = some r) :
  Calls Try.prog 37 #[.string a0, .int .i64 a1] w fun e w' => e = .returned (.string r) ∧ Below w.heap.size w w':=by
 have HB:=Aside0.mk (Below.refl w.heap.size w)
 have H : (spec_l2Number.l0 k a1 a0 1000) = some r:=h
 clear h
 have H':=Aside0.mk H
 clear H
 go_enter Try.func37,Try.ntmps37
 go_wp2
 repeat (go_quiet (fail);try go_wp2)
 go_loopg [5,6] k (fun kq v5 v6 w' => ∃ (x5_1 : ByteArray) (x6_1 : Int),v5 = .string x5_1 ∧ v6 = .int .i64 x6_1 ∧ Aside0 (spec_l2Number.l0 kq a1 x5_1 x6_1 = some r) ∧ Aside0 (kq ≤ k) ∧ Aside0 (Below w.heap.size w w'))
 case atStart => exact ⟨(a0),(1000),(by rfl),(by rfl),H',⟨Nat.le_refl _⟩,⟨by exact HB.out⟩⟩
 case round =>
  clear H'
  try clear p2
  obtain ⟨x5_1,x6_1,rfl,rfl,HA,HK1,HB⟩ := hrel
  cases gk with
  | zero => exact absurd HA.out (by simp [spec_l2Number.l0])
  | succ k1 =>
   have H:=HA.out
   clear HA
   simp only [spec_l2Number.l0] at H
   by_cases c3 : x6_1 > 0
   ·rw [if_pos c3] at H
    have c3b0 : decide (0 < x6_1) = true:=decide_eq_true c3
    clear c3
    by_cases c4 : x6_1 = 0
    ·rw [if_pos c4] at H
     exact absurd H (by simp)
    ·rw [if_neg c4] at H
     have c4b0 : (x6_1 == 0) = false:=beq_eq_false_iff_ne.mpr c4
     have c4b1 : (x6_1 != 0) = true:=bne_iff_ne.mpr c4
     obtain ⟨ji5,hji5⟩ : ∃ j_ : Int,(Int.tmod (wrap64 (Int.tdiv a1 x6_1)) 10) = j_:=⟨_,rfl⟩
     replace H : (if 0 ≤ (ji5) then (if (ji5) ≤ (wrap64 ((ji5) + 1)) then (if (wrap64 ((ji5) + 1)) ≤ 10 then (if x5_1.size + ((⟨#[48,49,50,51,52,53,54,55,56,57]⟩ : ByteArray).extract ((ji5) : Int).toNat ((wrap64 ((ji5) + 1)) : Int).toNat).size ≤ 9223372036854775807 then (spec_l2Number.l0 k1 a1 (x5_1 ++ ((⟨#[48,49,50,51,52,53,54,55,56,57]⟩ : ByteArray).extract ((ji5) : Int).toNat ((wrap64 ((ji5) + 1)) : Int).toNat)) (wrap64 (Int.tdiv x6_1 10))) else (none)) else (none)) else (none)) else (none)) = some r:=by (rw [hji5] at H;exact H)
     by_cases c6 : 0 ≤ (ji5)
     ·rw [if_pos c6] at H
      have c6b0:=eq_true c6
      have c6b1 : decide (0 ≤ (ji5)) = true:=decide_eq_true c6
      clear c6
      by_cases c7 : (ji5) ≤ (wrap64 ((ji5) + 1))
      ·rw [if_pos c7] at H
       have c7b0:=eq_true c7
       have c7b1 : decide ((ji5) ≤ (wrap64 ((ji5) + 1))) = true:=decide_eq_true c7
       by_cases c8 : (wrap64 ((ji5) + 1)) ≤ 10
       ·rw [if_pos c8] at H
        have c8b0:=eq_true c8
        have c8b1 : decide ((wrap64 ((ji5) + 1)) ≤ 10) = true:=decide_eq_true c8
        by_cases c9 : x5_1.size + ((⟨#[48,49,50,51,52,53,54,55,56,57]⟩ : ByteArray).extract ((ji5) : Int).toNat ((wrap64 ((ji5) + 1)) : Int).toNat).size ≤ 9223372036854775807
        ·rw [if_pos c9] at H
         have c9b0:=eq_true c9
         have c9b1 : decide (x5_1.size + ((⟨#[48,49,50,51,52,53,54,55,56,57]⟩ : ByteArray).extract ((ji5) : Int).toNat ((wrap64 ((ji5) + 1)) : Int).toNat).size ≤ 9223372036854775807) = true:=decide_eq_true c9
         try have c9b2 : (9223372036854775807 < x5_1.size + ((⟨#[48,49,50,51,52,53,54,55,56,57]⟩ : ByteArray).extract ((ji5) : Int).toNat ((wrap64 ((ji5) + 1)) : Int).toNat).size) = False:=eq_false (Nat.not_lt.2 c9)
         try have c9b3 : (9223372036854775807 < x5_1.size + (((wrap64 ((ji5) + 1)) : Int).toNat - ((ji5) : Int).toNat)) = False:=by have h_:=c9;rw [ByteArray.size_extract,Nat.min_eq_left (show ((wrap64 ((ji5) + 1)) : Int).toNat ≤ (⟨#[48,49,50,51,52,53,54,55,56,57]⟩ : ByteArray).size from (show ((wrap64 ((ji5) + 1)) : Int).toNat ≤ 10 from by omega))] at h_;exact eq_false (Nat.not_lt.2 h_)
         have H':=Aside0.mk H
         clear H
         go_wp2
         repeat (go_quiet (fail);try go_wp2)
         go_roundg k1
         case measure => have:=HK1.out;omega
         case rel => exact ⟨(x5_1 ++ ((⟨#[48,49,50,51,52,53,54,55,56,57]⟩ : ByteArray).extract ((ji5) : Int).toNat ((wrap64 ((ji5) + 1)) : Int).toNat)),(wrap64 (Int.tdiv x6_1 10)),(by rfl),(by rfl),H',⟨by have:=HK1.out;omega⟩,⟨by repeat ((with_reducible first | exact HB.out | apply pw_below_drewN))⟩⟩
        ·rw [if_neg c9] at H
         exact absurd H (by simp)
       ·rw [if_neg c8] at H
        exact absurd H (by simp)
      ·rw [if_neg c7] at H
       exact absurd H (by simp)
     ·rw [if_neg c6] at H
      exact absurd H (by simp)
   ·rw [if_neg c3] at H
    have c3b0 : decide (0 < x6_1) = false:=decide_eq_false c3
    clear c3
    replace H:=Option.bind_eq_some_iff.mp H
    obtain ⟨t161,A100,H⟩ := H
    replace H : ((some (([t161] : List Int) : List Int)).bind fun y162 => (if x5_1.size + (strOfNums y162).size ≤ 9223372036854775807 then (some (x5_1 ++ (strOfNums y162))) else (none))) = some r:=H
    have A10:=Aside0.mk A100
    clear A100
    obtain ⟨y162,hy162⟩ : ∃ y_ : List Int,y_ = (([t161] : List Int)):=⟨_,rfl⟩
    replace H : (if x5_1.size + (strOfNums y162).size ≤ 9223372036854775807 then (some (x5_1 ++ (strOfNums y162))) else (none)) = some r:=by (have H2_:=(Option.bind_some _ _).symm.trans H;rw [hy162];with_reducible exact H2_)
    have Ny162:=Aside0.mk hy162
    clear hy162
    by_cases c11 : x5_1.size + (strOfNums y162).size ≤ 9223372036854775807
    ·rw [if_pos c11] at H
     have c11b0:=eq_true c11
     have c11b1 : decide (x5_1.size + (strOfNums y162).size ≤ 9223372036854775807) = true:=decide_eq_true c11
     try have c11b2 : (9223372036854775807 < x5_1.size + (strOfNums y162).size) = False:=eq_false (Nat.not_lt.2 c11)
     obtain rfl:=Option.some.inj H
     go_wp2_with (first | (go_at_call 53;(with_reducible refine (spec_l2Check.calls k1 x5_1 t161 _ A10.out).mono ?_);rintro e w' ⟨rfl,⟨nd,rfl⟩⟩;(try first | exact ⟨rfl,_,World.drewN_drewN _ _ _⟩ | exact ⟨rfl,_,Eq.trans (World.drewN_drewN _ _ _) (congrArg (World.drewN _) (Nat.add_assoc _ _ _))⟩)) | ((with_reducible refine gate_dst (N:=27) rfl ?_);refine Kd.R_lit (Kd.int .u8) _ 5 ?hg (N:=27) ?hd (xs:=([t161] : List Int)) (inner := [.int .u8 t161]) (ok:=fun _ => True) (okp:=fun _ => True) ?hr ?hp (fun _ hk => hk) trivial (Below.refl _ _) (Nat.le_refl _) (by simp) ?_;(case hd => rfl);(case hg => rfl);(case hr => (go_simp;done));(case hp => exact (Reps.one (show Kd.M (Kd.int .u8) _ _ _ t161 [.int .u8 t161] from rfl) (Reps.none _ _)));intro v163 w12 ho13 hb hg_ hnew_;clear hg_ hnew_;(rw [← Ny162.out] at ho13);have n0_:=Aside0.mk (Kd.R_lower ho13 (below_size (by repeat ((with_reducible first | exact HB.out | apply pw_below_drewN)))));have n1_:=Aside0.mk (below_step (by repeat ((with_reducible first | exact HB.out | apply pw_below_drewN))) hb);clear HB;have HO164:=n0_;have HB:=n1_;clear n0_ n1_;clear hb ho13;have hcv14:=own_string (P:=Try.prog) Try.underlying22 Try.underlying5 Try.underlying9 (Kd.own_of_R HO164.out)))
     repeat (go_quiet (fail);try go_wp2_with (fail))
     go_ret
     exact ⟨by rfl,by exact HB.out⟩
    ·rw [if_neg c11] at H
     exact absurd H (by simp)

/-! ### spec_l1Cur_of: function 58 -/
def spec_l1Cur_of.f (s0_0 : List Int) (s0_1 : Int) (s0_2 : Int) (l1 : List ByteArray) : Option (ByteArray × Int × Int):=(spec_l1Cur_pick.f s0_0 s0_1 s0_2 (l1.length : Int)).bind fun bt165 => (if 0 ≤ bt165.1 then (if bt165.1 < (l1.length : Int) then (some (rdOf ByteArray.empty l1 bt165.1,bt165.2.1,bt165.2.2)) else (none)) else (none))
set_option maxHeartbeats 8000000 in
set_option maxRecDepth 100000 in
theorem spec_l1Cur_of.calls (g : Nat) (s0_0 : List Int) (s0_1 : Int) (s0_2 : Int) (A1 : Option Addr) (c1 : Nat) (l1 : List ByteArray) (r1 : ByteArray) (r2 : Int) (r3 : Int) (w0 w : World) (hI : IsS46 w0 w g s0_0 s0_1 s0_2) (hB : Below w0.heap.size w0 w) (hr1 : Kd.C Kd.string w A1 l1.length l1) (hc1 : l1.length ≤ c1) (hf1 : ∀ ad,A1 = some ad → 0 < l1.length → ad.block ≠ g) (h : spec_l1Cur_of.f s0_0 s0_1 s0_2 l1 = some (r1,r2,r3)) :
  Calls Try.prog 58 #[.pointer (some ⟨g,0,none⟩), .slice A1 l1.length c1] w fun e w' => e = .returned (.string r1) ∧ IsS46 w0 w' g s0_0 r2 r3 ∧ Below w0.heap.size w0 w' ∧ KeepBut w w' g none:=by
 have HR1:=Aside0.mk hr1
 have HC1:=Aside0.mk hc1
 clear hr1 hc1
 have HI0:=Aside0.mk hI
 have HK:=Aside0.mk (KeepBut.refl w g none)
 have HL:=Aside0.mk hB.size
 clear hI
 have HW0:=Aside0.mk hB.size
 have HB:=Aside0.mk hB
 clear hB
 have H : ((spec_l1Cur_pick.f s0_0 s0_1 s0_2 (l1.length : Int)).bind fun bt165 => (if 0 ≤ bt165.1 then (if bt165.1 < (l1.length : Int) then (some (rdOf ByteArray.empty l1 bt165.1,bt165.2.1,bt165.2.2)) else (none)) else (none))) = some (r1,r2,r3):=h
 clear h
 replace H:=Option.bind_eq_some_iff.mp H
 obtain ⟨⟨t165,t166,t167⟩,A30,H⟩ := H
 replace H : (if 0 ≤ t165 then (if t165 < (l1.length : Int) then (some (rdOf ByteArray.empty l1 t165,t166,t167)) else (none)) else (none)) = some (r1,r2,r3):=H
 have A3:=Aside0.mk A30
 clear A30
 by_cases c4 : 0 ≤ t165
 ·rw [if_pos c4] at H
  have c4b0 : decide (0 ≤ t165) = true:=decide_eq_true c4
  clear c4
  by_cases c5 : t165 < (l1.length : Int)
  ·rw [if_pos c5] at H
   have c5b0 : decide (t165 < (l1.length : Int)) = true:=decide_eq_true c5
   clear c5
   simp only [Option.some.injEq,Prod.mk.injEq] at H
   obtain ⟨rfl,rfl,rfl⟩ := H
   go_enter Try.func58,Try.ntmps58
   go_wp2_with (((with_reducible refine gate_callee (f:=21) rfl ?_);refine goesL_ (some 9) rfl rfl Try.func21 (by kernel_rfl) rfl #[.pointer (some ⟨g,0,none⟩), .int .i64 (l1.length : Int)] rfl (by (try simp only [List.map_toArray,List.map_cons,List.map_nil]);rfl) ?_;(with_reducible refine (spec_l1Cur_pick.calls g s0_0 s0_1 s0_2 (l1.length : Int) t165 t166 t167 w0 _ ?side1 ?side2 A3.out).mono ?_);(case side1 => exact HI0.out);(case side2 => exact HB.out);rintro e w6 ⟨rfl,hi,hb,hk⟩;refine ⟨_,rfl, ?_⟩;have n0_:=Aside0.mk (KeepBut.trans (by exact HK.out) hk (.inl rfl));have n1_:=Aside0.mk (hb);have n2_:=Aside0.mk (hi);clear HK;clear HB;clear HI0;have HK:=n0_;have HB:=n1_;have HI0:=n2_;clear n0_ n1_ n2_;(try clear hb);(try clear hk);(try clear hi);have p168 : 0 ≤ (t165 : Int):=of_decide_eq_true (by (with_reducible assumption));have q168 : t165 < (l1.length : Int):=of_decide_eq_true (by (with_reducible assumption));obtain ⟨ad168,e168,hx168_0⟩ := Kd.at_string HR1.out t165 p168 q168;cases e168;replace hx168_0:=keep_cell HK.out hx168_0 (by (rw [add_block];exact hf1 _ rfl (by omega)));replace p168:=eq_true p168;replace q168:=eq_true q168))
   go_ret
   exact ⟨by rfl,by exact HI0.out,by exact HB.out,by exact HK.out⟩
  ·rw [if_neg c5] at H
   exact absurd H (by simp)
 ·rw [if_neg c4] at H
  exact absurd H (by simp)

/-! ### spec_l1Cur_id: function 51 -/
def spec_l1Cur_id.f (k : Nat) (s0_0 : List Int) (s0_1 : Int) (s0_2 : Int) : Option (ByteArray × Int × Int):=(spec_l1Cur_of.f s0_0 s0_1 s0_2 (([(⟨#[65,66,67]⟩ : ByteArray),(⟨#[88,89,90]⟩ : ByteArray),(⟨#[83,69,65]⟩ : ByteArray),(⟨#[90,90,90]⟩ : ByteArray)] : List ByteArray))).bind fun bt172 => ((spec_l1Cur_pick.f s0_0 bt172.2.1 bt172.2.2 200).bind fun bt175 => ((spec_l1Cur_among.f s0_0 bt175.2.1 bt175.2.2 (([1,7,50] : List Int))).bind fun bt181 => ((spec_l2Number.f k bt172.1 (wrap64 (bt175.1 * bt181.1))).bind fun t184 => (some (t184,bt181.2.1,bt181.2.2)))))
theorem spec_l1Cur_id.mono : ∀ a0 a1 a2 k,LeO (spec_l1Cur_id.f k a0 a1 a2) (spec_l1Cur_id.f (k + 1) a0 a1 a2):=by
 intro a0 a1 a2 k
 unfold spec_l1Cur_id.f
 repeat' first
   | (with_reducible exact spec_l2Number.mono _ _ _)
   | (with_reducible exact LeO.refl _)
   | (with_reducible exact LeO.none _)
   | (with_reducible refine LeO.ite ?_ ?_)
   | (with_reducible refine LeO.bind ?_ (fun _ => ?_))
   | exact spec_l2Number.mono _ _ _
   | exact LeO.none _
   | refine LeO.ite ?_ ?_
   | refine LeO.bind ?_ (fun _ => ?_)
set_option maxHeartbeats 8000000 in
set_option maxRecDepth 100000 in
theorem spec_l1Cur_id.calls (k : Nat) (g : Nat) (s0_0 : List Int) (s0_1 : Int) (s0_2 : Int) (r1 : ByteArray) (r2 : Int) (r3 : Int) (w0 w : World) (hI : IsS46 w0 w g s0_0 s0_1 s0_2) (hB : Below w0.heap.size w0 w) (h : spec_l1Cur_id.f k s0_0 s0_1 s0_2 = some (r1,r2,r3)) :
  Calls Try.prog 51 #[.pointer (some ⟨g,0,none⟩)] w fun e w' => e = .returned (.string r1) ∧ IsS46 w0 w' g s0_0 r2 r3 ∧ Below w0.heap.size w0 w' ∧ KeepBut w w' g none:=by
 have HI0:=Aside0.mk hI
 have HK:=Aside0.mk (KeepBut.refl w g none)
 have HL:=Aside0.mk hB.size
 clear hI
 have HW0:=Aside0.mk hB.size
 have HB:=Aside0.mk hB
 clear hB
 have H : ((spec_l1Cur_of.f s0_0 s0_1 s0_2 (([(⟨#[65,66,67]⟩ : ByteArray),(⟨#[88,89,90]⟩ : ByteArray),(⟨#[83,69,65]⟩ : ByteArray),(⟨#[90,90,90]⟩ : ByteArray)] : List ByteArray))).bind fun bt172 => ((spec_l1Cur_pick.f s0_0 bt172.2.1 bt172.2.2 200).bind fun bt175 => ((spec_l1Cur_among.f s0_0 bt175.2.1 bt175.2.2 (([1,7,50] : List Int))).bind fun bt181 => ((spec_l2Number.f k bt172.1 (wrap64 (bt175.1 * bt181.1))).bind fun t184 => (some (t184,bt181.2.1,bt181.2.2)))))) = some (r1,r2,r3):=h
 clear h
 obtain ⟨y169,hy169⟩ : ∃ y_ : List ByteArray,y_ = (([(⟨#[65,66,67]⟩ : ByteArray),(⟨#[88,89,90]⟩ : ByteArray),(⟨#[83,69,65]⟩ : ByteArray),(⟨#[90,90,90]⟩ : ByteArray)] : List ByteArray)):=⟨_,rfl⟩
 replace H : ((spec_l1Cur_of.f s0_0 s0_1 s0_2 y169).bind fun bt172 => ((spec_l1Cur_pick.f s0_0 bt172.2.1 bt172.2.2 200).bind fun bt175 => ((spec_l1Cur_among.f s0_0 bt175.2.1 bt175.2.2 (([1,7,50] : List Int))).bind fun bt181 => ((spec_l2Number.f k bt172.1 (wrap64 (bt175.1 * bt181.1))).bind fun t184 => (some (t184,bt181.2.1,bt181.2.2)))))) = some (r1,r2,r3):=by (rw [hy169];with_reducible exact H)
 have Ny169:=Aside0.mk hy169
 clear hy169
 replace H:=Option.bind_eq_some_iff.mp H
 obtain ⟨⟨t172,t173,t174⟩,A20,H⟩ := H
 replace H : ((spec_l1Cur_pick.f s0_0 t173 t174 200).bind fun bt175 => ((spec_l1Cur_among.f s0_0 bt175.2.1 bt175.2.2 (([1,7,50] : List Int))).bind fun bt181 => ((spec_l2Number.f k t172 (wrap64 (bt175.1 * bt181.1))).bind fun t184 => (some (t184,bt181.2.1,bt181.2.2))))) = some (r1,r2,r3):=H
 have A2:=Aside0.mk A20
 clear A20
 replace H:=Option.bind_eq_some_iff.mp H
 obtain ⟨⟨t175,t176,t177⟩,A30,H⟩ := H
 replace H : ((spec_l1Cur_among.f s0_0 t176 t177 (([1,7,50] : List Int))).bind fun bt181 => ((spec_l2Number.f k t172 (wrap64 (t175 * bt181.1))).bind fun t184 => (some (t184,bt181.2.1,bt181.2.2)))) = some (r1,r2,r3):=H
 have A3:=Aside0.mk A30
 clear A30
 obtain ⟨y178,hy178⟩ : ∃ y_ : List Int,y_ = (([1,7,50] : List Int)):=⟨_,rfl⟩
 replace H : ((spec_l1Cur_among.f s0_0 t176 t177 y178).bind fun bt181 => ((spec_l2Number.f k t172 (wrap64 (t175 * bt181.1))).bind fun t184 => (some (t184,bt181.2.1,bt181.2.2)))) = some (r1,r2,r3):=by (rw [hy178];with_reducible exact H)
 have Ny178:=Aside0.mk hy178
 clear hy178
 replace H:=Option.bind_eq_some_iff.mp H
 obtain ⟨⟨t181,t182,t183⟩,A40,H⟩ := H
 replace H : ((spec_l2Number.f k t172 (wrap64 (t175 * t181))).bind fun t184 => (some (t184,t182,t183))) = some (r1,r2,r3):=H
 have A4:=Aside0.mk A40
 clear A40
 replace H:=Option.bind_eq_some_iff.mp H
 obtain ⟨t184,A50,H⟩ := H
 replace H : (some (t184,t182,t183)) = some (r1,r2,r3):=H
 have A5:=Aside0.mk A50
 clear A50
 simp only [Option.some.injEq,Prod.mk.injEq] at H
 obtain ⟨rfl,rfl,rfl⟩ := H
 go_enter Try.func51,Try.ntmps51
 go_wp2_with (first | ((with_reducible refine gate_dst (N:=4) rfl ?_);refine Kd.R_lit Kd.string _ 9 ?hg (N:=4) ?hd (xs:=([(⟨#[65,66,67]⟩ : ByteArray),(⟨#[88,89,90]⟩ : ByteArray),(⟨#[83,69,65]⟩ : ByteArray),(⟨#[90,90,90]⟩ : ByteArray)] : List ByteArray)) (inner := [.string (⟨#[65,66,67]⟩ : ByteArray), .string (⟨#[88,89,90]⟩ : ByteArray), .string (⟨#[83,69,65]⟩ : ByteArray), .string (⟨#[90,90,90]⟩ : ByteArray)]) (ok:=fun _ => True) (okp:=fun _ => True) ?hr ?hp (fun _ hk => hk) trivial (Below.refl _ _) (Nat.le_refl _) (by simp) ?_;(case hd => rfl);(case hg => rfl);(case hr => (go_simp;done));(case hp => exact (Reps.one (show Kd.M Kd.string _ _ _ (⟨#[65,66,67]⟩ : ByteArray) [.string (⟨#[65,66,67]⟩ : ByteArray)] from rfl) (Reps.one (show Kd.M Kd.string _ _ _ (⟨#[88,89,90]⟩ : ByteArray) [.string (⟨#[88,89,90]⟩ : ByteArray)] from rfl) (Reps.one (show Kd.M Kd.string _ _ _ (⟨#[83,69,65]⟩ : ByteArray) [.string (⟨#[83,69,65]⟩ : ByteArray)] from rfl) (Reps.one (show Kd.M Kd.string _ _ _ (⟨#[90,90,90]⟩ : ByteArray) [.string (⟨#[90,90,90]⟩ : ByteArray)] from rfl) (Reps.none _ _))))));intro v170 w6 ho7 hb hg_ hnew_;clear hg_ hnew_;(rw [← Ny169.out] at ho7);have n0_:=Aside0.mk (Kd.R_lower ho7 (keep_size (w:=w) (g:=g) (row:=none) (by exact HK.out)));have n1_:=Aside0.mk (IsS46.below (by exact HI0.out) hb);have n2_:=Aside0.mk (KeepBut.trans (by exact HK.out) (KeepBut.of_below hb g none) (.inl rfl));have n3_:=Aside0.mk (below_step (by exact HB.out) hb);clear HI0;clear HK;clear HB;have HO171:=n0_;have HI0:=n1_;have HK:=n2_;have HB:=n3_;clear n0_ n1_ n2_ n3_;clear hb ho7;obtain ⟨Ao8,co8,eo8⟩ := Kd.R_slice HO171.out;subst eo8) | ((with_reducible refine gate_callee (f:=58) rfl ?_);refine goesL_ (some 5) rfl rfl Try.func58 (by kernel_rfl) rfl #[.pointer (some ⟨g,0,none⟩), .slice Ao8 y169.length co8] rfl (by (try simp only [List.map_toArray,List.map_cons,List.map_nil]);rfl) ?_;(with_reducible refine (spec_l1Cur_of.calls g s0_0 s0_1 s0_2 _ _ y169 t172 t173 t174 w0 _ ?side1 ?side2 ?side3 ?side4 ?side5 A2.out).mono ?_);(case side1 => exact HI0.out);(case side2 => exact HB.out);(case side3 => repeat (exact (Kd.R_reads' HO171.out).2.2));(case side4 => exact (Kd.R_reads' HO171.out).2.1);(case side5 => exact far_slice (IsS46.own_ne HI0.out HO171.out (by decide)));rintro e w9 ⟨rfl,hi,hb,hk⟩;refine ⟨_,rfl, ?_⟩;have n0_:=Aside0.mk (Kd.R_mono (Kd.R_keep (IsS46.apart (show IsS46 w0 _ g s0_0 s0_1 s0_2 from by exact HI0.out) (by exact HO171.out) (by decide)) hk (fun _ h => h.2)) (fun _ h => h.1));have n1_:=Aside0.mk (KeepBut.trans (by exact HK.out) hk (.inl rfl));have n2_:=Aside0.mk (hb);have n3_:=Aside0.mk (hi);clear HO171;clear HK;clear HB;clear HI0;have HO171:=n0_;have HK:=n1_;have HB:=n2_;have HI0:=n3_;clear n0_ n1_ n2_ n3_;(try clear hb);(try clear hk);(try clear hi)) | ((with_reducible refine gate_callee (f:=21) rfl ?_);refine goesL_ (some 7) rfl rfl Try.func21 (by kernel_rfl) rfl #[.pointer (some ⟨g,0,none⟩), .int .i64 200] rfl (by (try simp only [List.map_toArray,List.map_cons,List.map_nil]);rfl) ?_;(with_reducible refine (spec_l1Cur_pick.calls g s0_0 t173 t174 200 t175 t176 t177 w0 _ ?side1 ?side2 A3.out).mono ?_);(case side1 => exact HI0.out);(case side2 => exact HB.out);rintro e w10 ⟨rfl,hi,hb,hk⟩;refine ⟨_,rfl, ?_⟩;have n0_:=Aside0.mk (Kd.R_mono (Kd.R_keep (IsS46.apart (show IsS46 w0 _ g s0_0 t173 t174 from by exact HI0.out) (by exact HO171.out) (by decide)) hk (fun _ h => h.2)) (fun _ h => h.1));have n1_:=Aside0.mk (KeepBut.trans (by exact HK.out) hk (.inl rfl));have n2_:=Aside0.mk (hb);have n3_:=Aside0.mk (hi);clear HO171;clear HK;clear HB;clear HI0;have HO171:=n0_;have HK:=n1_;have HB:=n2_;have HI0:=n3_;clear n0_ n1_ n2_ n3_;(try clear hb);(try clear hk);(try clear hi)) | ((with_reducible refine gate_dst (N:=9) rfl ?_);refine Kd.R_lit (Kd.int .i64) _ 3 ?hg (N:=9) ?hd (xs:=([1,7,50] : List Int)) (inner := [.int .i64 1, .int .i64 7, .int .i64 50]) (ok:=fun _ => True) (okp:=fun _ => True) ?hr ?hp (fun _ hk => hk) trivial (Below.refl _ _) (Nat.le_refl _) (by simp) ?_;(case hd => rfl);(case hg => rfl);(case hr => (go_simp;done));(case hp => exact (Reps.one (show Kd.M (Kd.int .i64) _ _ _ 1 [.int .i64 1] from rfl) (Reps.one (show Kd.M (Kd.int .i64) _ _ _ 7 [.int .i64 7] from rfl) (Reps.one (show Kd.M (Kd.int .i64) _ _ _ 50 [.int .i64 50] from rfl) (Reps.none _ _)))));intro v179 w11 ho12 hb hg_ hnew_;clear hg_ hnew_;(rw [← Ny178.out] at ho12);have n0_:=Aside0.mk (Kd.R_below (by exact HO171.out) hb);have n1_:=Aside0.mk (Kd.R_lower ho12 (keep_size (w:=w) (g:=g) (row:=none) (by exact HK.out)));have n2_:=Aside0.mk (IsS46.below (by exact HI0.out) hb);have n3_:=Aside0.mk (KeepBut.trans (by exact HK.out) (KeepBut.of_below hb g none) (.inl rfl));have n4_:=Aside0.mk (below_step (by exact HB.out) hb);clear HO171;clear HI0;clear HK;clear HB;have HO171:=n0_;have HO180:=n1_;have HI0:=n2_;have HK:=n3_;have HB:=n4_;clear n0_ n1_ n2_ n3_ n4_;clear hb ho12;obtain ⟨Ao13,co13,eo13⟩ := Kd.R_slice HO180.out;subst eo13) | ((with_reducible refine gate_callee (f:=34) rfl ?_);refine goesL_ (some 10) rfl rfl Try.func34 (by kernel_rfl) rfl #[.pointer (some ⟨g,0,none⟩), .slice Ao13 y178.length co13] rfl (by (try simp only [List.map_toArray,List.map_cons,List.map_nil]);rfl) ?_;(with_reducible refine (spec_l1Cur_among.calls g s0_0 t176 t177 _ _ y178 t181 t182 t183 w0 _ ?side1 ?side2 ?side3 ?side4 ?side5 A4.out).mono ?_);(case side1 => exact HI0.out);(case side2 => exact HB.out);(case side3 => repeat (exact (Kd.R_reads' HO180.out).2.2));(case side4 => exact (Kd.R_reads' HO180.out).2.1);(case side5 => exact far_slice (IsS46.own_ne HI0.out HO180.out (by decide)));rintro e w14 ⟨rfl,hi,hb,hk⟩;refine ⟨_,rfl, ?_⟩;have n0_:=Aside0.mk (Kd.R_mono (Kd.R_keep (IsS46.apart (show IsS46 w0 _ g s0_0 t176 t177 from by exact HI0.out) (by exact HO171.out) (by decide)) hk (fun _ h => h.2)) (fun _ h => h.1));have n1_:=Aside0.mk (Kd.R_mono (Kd.R_keep (IsS46.apart (show IsS46 w0 _ g s0_0 t176 t177 from by exact HI0.out) (by exact HO180.out) (by decide)) hk (fun _ h => h.2)) (fun _ h => h.1));have n2_:=Aside0.mk (KeepBut.trans (by exact HK.out) hk (.inl rfl));have n3_:=Aside0.mk (hb);have n4_:=Aside0.mk (hi);clear HO171;clear HO180;clear HK;clear HB;clear HI0;have HO171:=n0_;have HO180:=n1_;have HK:=n2_;have HB:=n3_;have HI0:=n4_;clear n0_ n1_ n2_ n3_ n4_;(try clear hb);(try clear hk);(try clear hi)) | ((with_reducible refine gate_callee (f:=37) rfl ?_);refine goesL_ (some 12) rfl rfl Try.func37 (by kernel_rfl) rfl #[.string t172, .int .i64 (wrap64 (t175 * t181))] rfl (by (try simp only [List.map_toArray,List.map_cons,List.map_nil]);rfl) ?_;(with_reducible refine (spec_l2Number.calls k t172 (wrap64 (t175 * t181)) t184 _ A5.out).mono ?_);rintro e w15 ⟨rfl,hb⟩;refine ⟨_,rfl, ?_⟩;have n0_:=Aside0.mk (Kd.R_below (by exact HO171.out) hb);have n1_:=Aside0.mk (Kd.R_below (by exact HO180.out) hb);have n2_:=Aside0.mk (IsS46.below (by exact HI0.out) hb);have n3_:=Aside0.mk (KeepBut.trans (by exact HK.out) (KeepBut.of_below hb g none) (.inl rfl));have n4_:=Aside0.mk (below_step (by exact HB.out) hb);clear HO171;clear HO180;clear HI0;clear HK;clear HB;have HO171:=n0_;have HO180:=n1_;have HI0:=n2_;have HK:=n3_;have HB:=n4_;clear n0_ n1_ n2_ n3_ n4_;(try clear hb)))
 go_ret
 exact ⟨by rfl,by exact HI0.out,by exact HB.out,by exact HK.out⟩

/-! ### spec_l1Cur_container: function 35 -/
def spec_l1Cur_container.f (k : Nat) (s0_0 : List Int) (s0_1 : Int) (s0_2 : Int) : Option (ByteArray × Int × Int × Int × Int × Int × Int):=(spec_l1Cur_id.f k s0_0 s0_1 s0_2).bind fun bt186 => ((spec_l1Cur_pick.f s0_0 bt186.2.1 bt186.2.2 2).bind fun bt189 => ((spec_l1Cur_among.f s0_0 bt189.2.1 bt189.2.2 (([1,2000,8000,12000,20000,28000,32000] : List Int))).bind fun bt195 => ((spec_l1Cur_among.f s0_0 bt195.2.1 bt195.2.2 (([1,1,2,3] : List Int))).bind fun bt201 => ((spec_l1Cur_pick.f s0_0 bt201.2.1 bt201.2.2 4).bind fun bt204 => (some (bt186.1,wrap64 (1 + bt189.1),bt195.1,bt201.1,wrap64 (1 + bt204.1),bt204.2.1,bt204.2.2))))))
theorem spec_l1Cur_container.mono : ∀ a0 a1 a2 k,LeO (spec_l1Cur_container.f k a0 a1 a2) (spec_l1Cur_container.f (k + 1) a0 a1 a2):=by
 intro a0 a1 a2 k
 unfold spec_l1Cur_container.f
 repeat' first
   | (with_reducible exact spec_l1Cur_id.mono _ _ _ _)
   | (with_reducible exact LeO.refl _)
   | (with_reducible exact LeO.none _)
   | (with_reducible refine LeO.ite ?_ ?_)
   | (with_reducible refine LeO.bind ?_ (fun _ => ?_))
   | exact spec_l1Cur_id.mono _ _ _ _
   | exact LeO.none _
   | refine LeO.ite ?_ ?_
   | refine LeO.bind ?_ (fun _ => ?_)
set_option maxHeartbeats 8000000 in
set_option maxRecDepth 100000 in
theorem spec_l1Cur_container.calls (k : Nat) (g : Nat) (s0_0 : List Int) (s0_1 : Int) (s0_2 : Int) (r1 : ByteArray) (r2 : Int) (r3 : Int) (r4 : Int) (r5 : Int) (r6 : Int) (r7 : Int) (w0 w : World) (hI : IsS46 w0 w g s0_0 s0_1 s0_2) (hB : Below w0.heap.size w0 w) (h : spec_l1Cur_container.f k s0_0 s0_1 s0_2 = some (r1,r2,r3,r4,r5,r6,r7)) :
  Calls Try.prog 35 #[.pointer (some ⟨g,0,none⟩)] w fun e w' => e = .returned (.agg #[.string r1, .int .i64 r2, .int .i64 r3, .int .i64 r4, .int .i64 r5]) ∧ IsS46 w0 w' g s0_0 r6 r7 ∧ Below w0.heap.size w0 w' ∧ KeepBut w w' g none:=by
 have hu33:=Try.underlying33
 have HI0:=Aside0.mk hI
 have HK:=Aside0.mk (KeepBut.refl w g none)
 have HL:=Aside0.mk hB.size
 clear hI
 have HW0:=Aside0.mk hB.size
 have HB:=Aside0.mk hB
 clear hB
 have H : ((spec_l1Cur_id.f k s0_0 s0_1 s0_2).bind fun bt186 => ((spec_l1Cur_pick.f s0_0 bt186.2.1 bt186.2.2 2).bind fun bt189 => ((spec_l1Cur_among.f s0_0 bt189.2.1 bt189.2.2 (([1,2000,8000,12000,20000,28000,32000] : List Int))).bind fun bt195 => ((spec_l1Cur_among.f s0_0 bt195.2.1 bt195.2.2 (([1,1,2,3] : List Int))).bind fun bt201 => ((spec_l1Cur_pick.f s0_0 bt201.2.1 bt201.2.2 4).bind fun bt204 => (some (bt186.1,wrap64 (1 + bt189.1),bt195.1,bt201.1,wrap64 (1 + bt204.1),bt204.2.1,bt204.2.2))))))) = some (r1,r2,r3,r4,r5,r6,r7):=h
 clear h
 replace H:=Option.bind_eq_some_iff.mp H
 obtain ⟨⟨t186,t187,t188⟩,A20,H⟩ := H
 replace H : ((spec_l1Cur_pick.f s0_0 t187 t188 2).bind fun bt189 => ((spec_l1Cur_among.f s0_0 bt189.2.1 bt189.2.2 (([1,2000,8000,12000,20000,28000,32000] : List Int))).bind fun bt195 => ((spec_l1Cur_among.f s0_0 bt195.2.1 bt195.2.2 (([1,1,2,3] : List Int))).bind fun bt201 => ((spec_l1Cur_pick.f s0_0 bt201.2.1 bt201.2.2 4).bind fun bt204 => (some (t186,wrap64 (1 + bt189.1),bt195.1,bt201.1,wrap64 (1 + bt204.1),bt204.2.1,bt204.2.2)))))) = some (r1,r2,r3,r4,r5,r6,r7):=H
 have A2:=Aside0.mk A20
 clear A20
 replace H:=Option.bind_eq_some_iff.mp H
 obtain ⟨⟨t189,t190,t191⟩,A30,H⟩ := H
 replace H : ((spec_l1Cur_among.f s0_0 t190 t191 (([1,2000,8000,12000,20000,28000,32000] : List Int))).bind fun bt195 => ((spec_l1Cur_among.f s0_0 bt195.2.1 bt195.2.2 (([1,1,2,3] : List Int))).bind fun bt201 => ((spec_l1Cur_pick.f s0_0 bt201.2.1 bt201.2.2 4).bind fun bt204 => (some (t186,wrap64 (1 + t189),bt195.1,bt201.1,wrap64 (1 + bt204.1),bt204.2.1,bt204.2.2))))) = some (r1,r2,r3,r4,r5,r6,r7):=H
 have A3:=Aside0.mk A30
 clear A30
 obtain ⟨y192,hy192⟩ : ∃ y_ : List Int,y_ = (([1,2000,8000,12000,20000,28000,32000] : List Int)):=⟨_,rfl⟩
 replace H : ((spec_l1Cur_among.f s0_0 t190 t191 y192).bind fun bt195 => ((spec_l1Cur_among.f s0_0 bt195.2.1 bt195.2.2 (([1,1,2,3] : List Int))).bind fun bt201 => ((spec_l1Cur_pick.f s0_0 bt201.2.1 bt201.2.2 4).bind fun bt204 => (some (t186,wrap64 (1 + t189),bt195.1,bt201.1,wrap64 (1 + bt204.1),bt204.2.1,bt204.2.2))))) = some (r1,r2,r3,r4,r5,r6,r7):=by (rw [hy192];with_reducible exact H)
 have Ny192:=Aside0.mk hy192
 clear hy192
 replace H:=Option.bind_eq_some_iff.mp H
 obtain ⟨⟨t195,t196,t197⟩,A40,H⟩ := H
 replace H : ((spec_l1Cur_among.f s0_0 t196 t197 (([1,1,2,3] : List Int))).bind fun bt201 => ((spec_l1Cur_pick.f s0_0 bt201.2.1 bt201.2.2 4).bind fun bt204 => (some (t186,wrap64 (1 + t189),t195,bt201.1,wrap64 (1 + bt204.1),bt204.2.1,bt204.2.2)))) = some (r1,r2,r3,r4,r5,r6,r7):=H
 have A4:=Aside0.mk A40
 clear A40
 obtain ⟨y198,hy198⟩ : ∃ y_ : List Int,y_ = (([1,1,2,3] : List Int)):=⟨_,rfl⟩
 replace H : ((spec_l1Cur_among.f s0_0 t196 t197 y198).bind fun bt201 => ((spec_l1Cur_pick.f s0_0 bt201.2.1 bt201.2.2 4).bind fun bt204 => (some (t186,wrap64 (1 + t189),t195,bt201.1,wrap64 (1 + bt204.1),bt204.2.1,bt204.2.2)))) = some (r1,r2,r3,r4,r5,r6,r7):=by (rw [hy198];with_reducible exact H)
 have Ny198:=Aside0.mk hy198
 clear hy198
 replace H:=Option.bind_eq_some_iff.mp H
 obtain ⟨⟨t201,t202,t203⟩,A50,H⟩ := H
 replace H : ((spec_l1Cur_pick.f s0_0 t202 t203 4).bind fun bt204 => (some (t186,wrap64 (1 + t189),t195,t201,wrap64 (1 + bt204.1),bt204.2.1,bt204.2.2))) = some (r1,r2,r3,r4,r5,r6,r7):=H
 have A5:=Aside0.mk A50
 clear A50
 replace H:=Option.bind_eq_some_iff.mp H
 obtain ⟨⟨t204,t205,t206⟩,A60,H⟩ := H
 replace H : (some (t186,wrap64 (1 + t189),t195,t201,wrap64 (1 + t204),t205,t206)) = some (r1,r2,r3,r4,r5,r6,r7):=H
 have A6:=Aside0.mk A60
 clear A60
 simp only [Option.some.injEq,Prod.mk.injEq] at H
 obtain ⟨rfl,rfl,rfl,rfl,rfl,rfl,rfl⟩ := H
 go_enter Try.func35,Try.ntmps35
 go_wp2_with (first | ((with_reducible refine gate_dst (N:=2) rfl ?_);refine box_event ?hg (N:=2) ?hd (cs:=#[.string (⟨#[]⟩ : ByteArray), .int .i64 0, .int .i64 0, .int .i64 0, .int .i64 0]) (t:=33) ?hr ?_;(case hd => rfl);(case hg => rfl);(case hr => (go_simp;done));intro gb185 hg w7 hbox hb;have n0_:=Aside0.mk (IsS46.below (by exact HI0.out) hb);have n1_:=Aside0.mk (KeepBut.trans (by exact HK.out) (KeepBut.of_below hb g none) (.inl rfl));have n2_:=Aside0.mk (below_step (by exact HB.out) hb);have n3_:=Aside0.mk (hbox);have n4_:=Aside0.mk ((by rw [hg];exact (keep_size (w:=w) (g:=g) (row:=none) (by exact HK.out)) : w.heap.size ≤ gb185));have n5_:=Aside0.mk ((Nat.le_trans HW0.out (by rw [hg];exact (keep_size (w:=w) (g:=g) (row:=none) (by exact HK.out)) : w.heap.size ≤ gb185) : w0.heap.size ≤ gb185));have n6_:=Aside0.mk ((by rw [hg];exact Nat.ne_of_lt (IsS46.lt (show IsS46 w0 _ g s0_0 s0_1 s0_2 from by exact HI0.out)) : g ≠ gb185));have n7_:=Aside0.mk ((by rw [hg];exact Nat.ne_of_gt (IsS46.lt (show IsS46 w0 _ g s0_0 s0_1 s0_2 from by exact HI0.out)) : gb185 ≠ g));clear HI0;clear HK;clear HB;have HI0:=n0_;have HK:=n1_;have HB:=n2_;have BK185:=n3_;have GW185:=n4_;have GE185:=n5_;have NB0_185:=n6_;have NB185_0:=n7_;clear n0_ n1_ n2_ n3_ n4_ n5_ n6_ n7_;clear hb hbox hg) | ((with_reducible refine gate_callee (f:=51) rfl ?_);refine goesL_ (some 4) rfl rfl Try.func51 (by kernel_rfl) rfl #[.pointer (some ⟨g,0,none⟩)] rfl (by (try simp only [List.map_toArray,List.map_cons,List.map_nil]);rfl) ?_;(with_reducible refine (spec_l1Cur_id.calls k g s0_0 s0_1 s0_2 t186 t187 t188 w0 _ ?side1 ?side2 A2.out).mono ?_);(case side1 => exact HI0.out);(case side2 => exact HB.out);rintro e w8 ⟨rfl,hi,hb,hk⟩;refine ⟨_,rfl, ?_⟩;have n0_:=Aside0.mk (KeepBut.blk hk (g':=gb185) (o := .cells #[.string (⟨#[]⟩ : ByteArray), .int .i64 0, .int .i64 0, .int .i64 0, .int .i64 0] 33 (0,0)) (by exact BK185.out) NB185_0.out (by simp));have n1_:=Aside0.mk (KeepBut.trans (by exact HK.out) hk (.inl rfl));have n2_:=Aside0.mk (hb);have n3_:=Aside0.mk (hi);clear BK185;clear HK;clear HB;clear HI0;have BK185:=n0_;have HK:=n1_;have HB:=n2_;have HI0:=n3_;clear n0_ n1_ n2_ n3_;(try clear hb);(try clear hk);(try clear hi)) | ((with_reducible refine gate_callee (f:=21) rfl ?_);refine goesL_ (some 6) rfl rfl Try.func21 (by kernel_rfl) rfl #[.pointer (some ⟨g,0,none⟩), .int .i64 2] rfl (by (try simp only [List.map_toArray,List.map_cons,List.map_nil]);rfl) ?_;(with_reducible refine (spec_l1Cur_pick.calls g s0_0 t187 t188 2 t189 t190 t191 w0 _ ?side1 ?side2 A3.out).mono ?_);(case side1 => exact HI0.out);(case side2 => exact HB.out);rintro e w9 ⟨rfl,hi,hb,hk⟩;refine ⟨_,rfl, ?_⟩;have n0_:=Aside0.mk (KeepBut.blk hk (g':=gb185) (o := .cells #[.string (⟨#[]⟩ : ByteArray), .int .i64 0, .int .i64 0, .int .i64 0, .int .i64 0] 33 (0,0)) (by exact BK185.out) NB185_0.out (by simp));have n1_:=Aside0.mk (KeepBut.trans (by exact HK.out) hk (.inl rfl));have n2_:=Aside0.mk (hb);have n3_:=Aside0.mk (hi);clear BK185;clear HK;clear HB;clear HI0;have BK185:=n0_;have HK:=n1_;have HB:=n2_;have HI0:=n3_;clear n0_ n1_ n2_ n3_;(try clear hb);(try clear hk);(try clear hi)) | ((with_reducible refine gate_dst (N:=9) rfl ?_);refine Kd.R_lit (Kd.int .i64) _ 3 ?hg (N:=9) ?hd (xs:=([1,2000,8000,12000,20000,28000,32000] : List Int)) (inner := [.int .i64 1, .int .i64 2000, .int .i64 8000, .int .i64 12000, .int .i64 20000, .int .i64 28000, .int .i64 32000]) (ok:=fun _ => True) (okp:=fun _ => True) ?hr ?hp (fun _ hk => hk) trivial (Below.refl _ _) (Nat.le_refl _) (by simp) ?_;(case hd => rfl);(case hg => rfl);(case hr => (go_simp;done));(case hp => exact (Reps.one (show Kd.M (Kd.int .i64) _ _ _ 1 [.int .i64 1] from rfl) (Reps.one (show Kd.M (Kd.int .i64) _ _ _ 2000 [.int .i64 2000] from rfl) (Reps.one (show Kd.M (Kd.int .i64) _ _ _ 8000 [.int .i64 8000] from rfl) (Reps.one (show Kd.M (Kd.int .i64) _ _ _ 12000 [.int .i64 12000] from rfl) (Reps.one (show Kd.M (Kd.int .i64) _ _ _ 20000 [.int .i64 20000] from rfl) (Reps.one (show Kd.M (Kd.int .i64) _ _ _ 28000 [.int .i64 28000] from rfl) (Reps.one (show Kd.M (Kd.int .i64) _ _ _ 32000 [.int .i64 32000] from rfl) (Reps.none _ _)))))))));intro v193 w10 ho11 hb hg_ hnew_;clear hg_ hnew_;(rw [← Ny192.out] at ho11);have n0_:=Aside0.mk (Kd.R_lower ho11 (keep_size (w:=w) (g:=g) (row:=none) (by exact HK.out)));have n1_:=Aside0.mk (IsS46.below (by exact HI0.out) hb);have n2_:=Aside0.mk (blk_below (g:=gb185) (o := .cells #[.string (⟨#[]⟩ : ByteArray), .int .i64 0, .int .i64 0, .int .i64 0, .int .i64 0] 33 (0,0)) (by exact BK185.out) hb);have n3_:=Aside0.mk (KeepBut.trans (by exact HK.out) (KeepBut.of_below hb g none) (.inl rfl));have n4_:=Aside0.mk (below_step (by exact HB.out) hb);clear HI0;clear BK185;clear HK;clear HB;have HO194:=n0_;have HI0:=n1_;have BK185:=n2_;have HK:=n3_;have HB:=n4_;clear n0_ n1_ n2_ n3_ n4_;clear hb ho11;obtain ⟨Ao12,co12,eo12⟩ := Kd.R_slice HO194.out;subst eo12) | ((with_reducible refine gate_callee (f:=34) rfl ?_);refine goesL_ (some 10) rfl rfl Try.func34 (by kernel_rfl) rfl #[.pointer (some ⟨g,0,none⟩), .slice Ao12 y192.length co12] rfl (by (try simp only [List.map_toArray,List.map_cons,List.map_nil]);rfl) ?_;(with_reducible refine (spec_l1Cur_among.calls g s0_0 t190 t191 _ _ y192 t195 t196 t197 w0 _ ?side1 ?side2 ?side3 ?side4 ?side5 A4.out).mono ?_);(case side1 => exact HI0.out);(case side2 => exact HB.out);(case side3 => repeat (exact (Kd.R_reads' HO194.out).2.2));(case side4 => exact (Kd.R_reads' HO194.out).2.1);(case side5 => exact far_slice (IsS46.own_ne HI0.out HO194.out (by decide)));rintro e w13 ⟨rfl,hi,hb,hk⟩;refine ⟨_,rfl, ?_⟩;have n0_:=Aside0.mk (KeepBut.blk hk (g':=gb185) (o := .cells #[.string (⟨#[]⟩ : ByteArray), .int .i64 0, .int .i64 0, .int .i64 0, .int .i64 0] 33 (0,0)) (by exact BK185.out) NB185_0.out (by simp));have n1_:=Aside0.mk (Kd.R_mono (Kd.R_keep (IsS46.apart (show IsS46 w0 _ g s0_0 t190 t191 from by exact HI0.out) (by exact HO194.out) (by decide)) hk (fun _ h => h.2)) (fun _ h => h.1));have n2_:=Aside0.mk (KeepBut.trans (by exact HK.out) hk (.inl rfl));have n3_:=Aside0.mk (hb);have n4_:=Aside0.mk (hi);clear BK185;clear HO194;clear HK;clear HB;clear HI0;have BK185:=n0_;have HO194:=n1_;have HK:=n2_;have HB:=n3_;have HI0:=n4_;clear n0_ n1_ n2_ n3_ n4_;(try clear hb);(try clear hk);(try clear hi)) | ((with_reducible refine gate_dst (N:=12) rfl ?_);refine Kd.R_lit (Kd.int .i64) _ 3 ?hg (N:=12) ?hd (xs:=([1,1,2,3] : List Int)) (inner := [.int .i64 1, .int .i64 1, .int .i64 2, .int .i64 3]) (ok:=fun _ => True) (okp:=fun _ => True) ?hr ?hp (fun _ hk => hk) trivial (Below.refl _ _) (Nat.le_refl _) (by simp) ?_;(case hd => rfl);(case hg => rfl);(case hr => (go_simp;done));(case hp => exact (Reps.one (show Kd.M (Kd.int .i64) _ _ _ 1 [.int .i64 1] from rfl) (Reps.one (show Kd.M (Kd.int .i64) _ _ _ 1 [.int .i64 1] from rfl) (Reps.one (show Kd.M (Kd.int .i64) _ _ _ 2 [.int .i64 2] from rfl) (Reps.one (show Kd.M (Kd.int .i64) _ _ _ 3 [.int .i64 3] from rfl) (Reps.none _ _))))));intro v199 w14 ho15 hb hg_ hnew_;clear hg_ hnew_;(rw [← Ny198.out] at ho15);have n0_:=Aside0.mk (Kd.R_elder' (by exact HO194.out) (Kd.R_base ho15) hb);have n1_:=Aside0.mk (Kd.R_lower (Kd.R_new' ho15 (Kd.R_lt (by exact HO194.out))) (keep_size (w:=w) (g:=g) (row:=none) (by exact HK.out)));have n2_:=Aside0.mk (IsS46.below (by exact HI0.out) hb);have n3_:=Aside0.mk (blk_below (g:=gb185) (o := .cells #[.string (⟨#[]⟩ : ByteArray), .int .i64 0, .int .i64 0, .int .i64 0, .int .i64 0] 33 (0,0)) (by exact BK185.out) hb);have n4_:=Aside0.mk (KeepBut.trans (by exact HK.out) (KeepBut.of_below hb g none) (.inl rfl));have n5_:=Aside0.mk (below_step (by exact HB.out) hb);clear HO194;clear HI0;clear BK185;clear HK;clear HB;have HO194:=n0_;have HO200:=n1_;have HI0:=n2_;have BK185:=n3_;have HK:=n4_;have HB:=n5_;clear n0_ n1_ n2_ n3_ n4_ n5_;clear hb ho15;obtain ⟨Ao16,co16,eo16⟩ := Kd.R_slice HO200.out;subst eo16) | ((with_reducible refine gate_callee (f:=34) rfl ?_);refine goesL_ (some 13) rfl rfl Try.func34 (by kernel_rfl) rfl #[.pointer (some ⟨g,0,none⟩), .slice Ao16 y198.length co16] rfl (by (try simp only [List.map_toArray,List.map_cons,List.map_nil]);rfl) ?_;(with_reducible refine (spec_l1Cur_among.calls g s0_0 t196 t197 _ _ y198 t201 t202 t203 w0 _ ?side1 ?side2 ?side3 ?side4 ?side5 A5.out).mono ?_);(case side1 => exact HI0.out);(case side2 => exact HB.out);(case side3 => repeat (exact (Kd.R_reads' HO200.out).2.2));(case side4 => exact (Kd.R_reads' HO200.out).2.1);(case side5 => exact far_slice (IsS46.own_ne HI0.out HO200.out (by decide)));rintro e w17 ⟨rfl,hi,hb,hk⟩;refine ⟨_,rfl, ?_⟩;have n0_:=Aside0.mk (KeepBut.blk hk (g':=gb185) (o := .cells #[.string (⟨#[]⟩ : ByteArray), .int .i64 0, .int .i64 0, .int .i64 0, .int .i64 0] 33 (0,0)) (by exact BK185.out) NB185_0.out (by simp));have n1_:=Aside0.mk (Kd.R_mono (Kd.R_keep (IsS46.apart (show IsS46 w0 _ g s0_0 t196 t197 from by exact HI0.out) (by exact HO194.out) (by decide)) hk (fun _ h => h.2)) (fun _ h => h.1));have n2_:=Aside0.mk (Kd.R_mono (Kd.R_keep (IsS46.apart (show IsS46 w0 _ g s0_0 t196 t197 from by exact HI0.out) (by exact HO200.out) (by decide)) hk (fun _ h => h.2)) (fun _ h => h.1));have n3_:=Aside0.mk (KeepBut.trans (by exact HK.out) hk (.inl rfl));have n4_:=Aside0.mk (hb);have n5_:=Aside0.mk (hi);clear BK185;clear HO194;clear HO200;clear HK;clear HB;clear HI0;have BK185:=n0_;have HO194:=n1_;have HO200:=n2_;have HK:=n3_;have HB:=n4_;have HI0:=n5_;clear n0_ n1_ n2_ n3_ n4_ n5_;(try clear hb);(try clear hk);(try clear hi)) | ((with_reducible refine gate_callee (f:=21) rfl ?_);refine goesL_ (some 15) rfl rfl Try.func21 (by kernel_rfl) rfl #[.pointer (some ⟨g,0,none⟩), .int .i64 4] rfl (by (try simp only [List.map_toArray,List.map_cons,List.map_nil]);rfl) ?_;(with_reducible refine (spec_l1Cur_pick.calls g s0_0 t202 t203 4 t204 t205 t206 w0 _ ?side1 ?side2 A6.out).mono ?_);(case side1 => exact HI0.out);(case side2 => exact HB.out);rintro e w18 ⟨rfl,hi,hb,hk⟩;refine ⟨_,rfl, ?_⟩;have n0_:=Aside0.mk (KeepBut.blk hk (g':=gb185) (o := .cells #[.string (⟨#[]⟩ : ByteArray), .int .i64 0, .int .i64 0, .int .i64 0, .int .i64 0] 33 (0,0)) (by exact BK185.out) NB185_0.out (by simp));have n1_:=Aside0.mk (Kd.R_mono (Kd.R_keep (IsS46.apart (show IsS46 w0 _ g s0_0 t202 t203 from by exact HI0.out) (by exact HO194.out) (by decide)) hk (fun _ h => h.2)) (fun _ h => h.1));have n2_:=Aside0.mk (Kd.R_mono (Kd.R_keep (IsS46.apart (show IsS46 w0 _ g s0_0 t202 t203 from by exact HI0.out) (by exact HO200.out) (by decide)) hk (fun _ h => h.2)) (fun _ h => h.1));have n3_:=Aside0.mk (KeepBut.trans (by exact HK.out) hk (.inl rfl));have n4_:=Aside0.mk (hb);have n5_:=Aside0.mk (hi);clear BK185;clear HO194;clear HO200;clear HK;clear HB;clear HI0;have BK185:=n0_;have HO194:=n1_;have HO200:=n2_;have HK:=n3_;have HB:=n4_;have HI0:=n5_;clear n0_ n1_ n2_ n3_ n4_ n5_;(try clear hb);(try clear hk);(try clear hi);have hnb19:=NB185_0.out;have hnc19:=NB0_185.out;have hcz20_0 : w18.cell? ⟨gb185,0,none⟩ = some (.string (⟨#[]⟩ : ByteArray)):=(blk_cell BK185.out 0).trans rfl;have hcz20_1 : w18.cell? ⟨gb185,1,none⟩ = some (.int .i64 0):=(blk_cell BK185.out 1).trans rfl;have hcz20_2 : w18.cell? ⟨gb185,2,none⟩ = some (.int .i64 0):=(blk_cell BK185.out 2).trans rfl;have hcz20_3 : w18.cell? ⟨gb185,3,none⟩ = some (.int .i64 0):=(blk_cell BK185.out 3).trans rfl;have hcz20_4 : w18.cell? ⟨gb185,4,none⟩ = some (.int .i64 0):=(blk_cell BK185.out 4).trans rfl;have hfz20_0:=blk_frozen BK185.out 0;have hfz20_1:=blk_frozen BK185.out 1;have hfz20_2:=blk_frozen BK185.out 2;have hfz20_3:=blk_frozen BK185.out 3;have hfz20_4:=blk_frozen BK185.out 4))
 refine bodyPost_ret (results_cell_row rfl _ _ gb185 33 #[.string t186, .int .i64 (wrap64 (1 + t189)), .int .i64 t195, .int .i64 t201, .int .i64 (wrap64 (1 + t204))] (0,0) _ rfl (by refine blk_put (cs:=#[.string t186, .int .i64 (wrap64 (1 + t189)), .int .i64 t195, .int .i64 t201, .int .i64 0]) ?_ 4 _ rfl;refine blk_put (cs:=#[.string t186, .int .i64 (wrap64 (1 + t189)), .int .i64 t195, .int .i64 0, .int .i64 0]) ?_ 3 _ rfl;refine blk_put (cs:=#[.string t186, .int .i64 (wrap64 (1 + t189)), .int .i64 0, .int .i64 0, .int .i64 0]) ?_ 2 _ rfl;refine blk_put (cs:=#[.string t186, .int .i64 0, .int .i64 0, .int .i64 0, .int .i64 0]) ?_ 1 _ rfl;refine blk_put (cs:=#[.string (⟨#[]⟩ : ByteArray), .int .i64 0, .int .i64 0, .int .i64 0, .int .i64 0]) ?_ 0 _ rfl;exact BK185.out) Try.underlying33 rfl (by kernel_rfl)) rfl ?_
 exact ⟨by rfl,by repeat ((with_reducible first | exact HI0.out | refine IsS46.far ?_ NB0_185.out _)),by repeat ((with_reducible first | exact HB.out | refine below_set ?_ GE185.out)),by repeat ((with_reducible first | exact HK.out | refine keep_far ?_ GW185.out _))⟩

/-! ### spec_l1Cur_one: function 20 -/
def spec_l1Cur_one.f (s0_0 : List Int) (s0_1 : Int) (s0_2 : Int) (a1 : Int) : Option (Bool × Int × Int):=(spec_l1Cur_pick.f s0_0 s0_1 s0_2 a1).bind fun bt207 => (some ((bt207.1 == 0),bt207.2.1,bt207.2.2))
set_option maxHeartbeats 8000000 in
set_option maxRecDepth 100000 in
theorem spec_l1Cur_one.calls (g : Nat) (s0_0 : List Int) (s0_1 : Int) (s0_2 : Int) (a1 : Int) (r1 : Bool) (r2 : Int) (r3 : Int) (w0 w : World) (hI : IsS46 w0 w g s0_0 s0_1 s0_2) (hB : Below w0.heap.size w0 w) (h : spec_l1Cur_one.f s0_0 s0_1 s0_2 a1 = some (r1,r2,r3)) :
  Calls Try.prog 20 #[.pointer (some ⟨g,0,none⟩), .int .i64 a1] w fun e w' => e = .returned (.bool r1) ∧ IsS46 w0 w' g s0_0 r2 r3 ∧ Below w0.heap.size w0 w' ∧ KeepBut w w' g none:=by
 have HI0:=Aside0.mk hI
 have HK:=Aside0.mk (KeepBut.refl w g none)
 have HL:=Aside0.mk hB.size
 clear hI
 have HW0:=Aside0.mk hB.size
 have HB:=Aside0.mk hB
 clear hB
 have H : ((spec_l1Cur_pick.f s0_0 s0_1 s0_2 a1).bind fun bt207 => (some ((bt207.1 == 0),bt207.2.1,bt207.2.2))) = some (r1,r2,r3):=h
 clear h
 replace H:=Option.bind_eq_some_iff.mp H
 obtain ⟨⟨t207,t208,t209⟩,A30,H⟩ := H
 replace H : (some ((t207 == 0),t208,t209)) = some (r1,r2,r3):=H
 have A3:=Aside0.mk A30
 clear A30
 simp only [Option.some.injEq,Prod.mk.injEq] at H
 obtain ⟨rfl,rfl,rfl⟩ := H
 go_enter Try.func20,Try.ntmps20
 go_wp2_with (((with_reducible refine gate_callee (f:=21) rfl ?_);refine goesL_ (some 7) rfl rfl Try.func21 (by kernel_rfl) rfl #[.pointer (some ⟨g,0,none⟩), .int .i64 a1] rfl (by (try simp only [List.map_toArray,List.map_cons,List.map_nil]);rfl) ?_;(with_reducible refine (spec_l1Cur_pick.calls g s0_0 s0_1 s0_2 a1 t207 t208 t209 w0 _ ?side1 ?side2 A3.out).mono ?_);(case side1 => exact HI0.out);(case side2 => exact HB.out);rintro e w4 ⟨rfl,hi,hb,hk⟩;refine ⟨_,rfl, ?_⟩;have n0_:=Aside0.mk (KeepBut.trans (by exact HK.out) hk (.inl rfl));have n1_:=Aside0.mk (hb);have n2_:=Aside0.mk (hi);clear HK;clear HB;clear HI0;have HK:=n0_;have HB:=n1_;have HI0:=n2_;clear n0_ n1_ n2_;(try clear hb);(try clear hk);(try clear hi)))
 go_ret
 exact ⟨by rfl,by exact HI0.out,by exact HB.out,by exact HK.out⟩

/-! ### spec_l1Cur_spoilt: function 59 -/
def spec_l1Cur_spoilt.f (s0_0 : List Int) (s0_1 : Int) (s0_2 : Int) (a1 : ByteArray) (a2 : ByteArray) : Option (ByteArray × Int × Int):=if a1.toList = ([] : List UInt8) then (if 0 ≤ 1 then (if 1 ≤ (a2.size : Int) then (some (a2.extract 0 1,s0_1,s0_2)) else (none)) else (none)) else ((spec_l1Cur_pick.f s0_0 s0_1 s0_2 (a1.size : Int)).bind fun bt210 => ((spec_l1Cur_pick.f s0_0 bt210.2.1 bt210.2.2 (a2.size : Int)).bind fun bt213 => (if 0 ≤ bt213.1 then (if bt213.1 ≤ (a2.size : Int) then (if 0 ≤ 1 then (if 1 ≤ ((a2.extract (bt213.1 : Int).toNat a2.size).size : Int) then ((spec_l1Cur_pick.f s0_0 bt213.2.1 bt213.2.2 3).bind fun bt216 => (if bt216.1 = 0 then (if 0 ≤ bt210.1 then (if bt210.1 ≤ (a1.size : Int) then (if (a1.extract 0 (bt210.1 : Int).toNat).size + ((a2.extract (bt213.1 : Int).toNat a2.size).extract 0 1).size ≤ 9223372036854775807 then (if ((a1.extract 0 (bt210.1 : Int).toNat) ++ ((a2.extract (bt213.1 : Int).toNat a2.size).extract 0 1)).size + (a1.extract (bt210.1 : Int).toNat a1.size).size ≤ 9223372036854775807 then (some (((a1.extract 0 (bt210.1 : Int).toNat) ++ ((a2.extract (bt213.1 : Int).toNat a2.size).extract 0 1)) ++ (a1.extract (bt210.1 : Int).toNat a1.size),bt216.2.1,bt216.2.2)) else (none)) else (none)) else (none)) else (none)) else (if bt216.1 = 1 then (if 0 ≤ bt210.1 then (if bt210.1 ≤ (a1.size : Int) then (if (a1.extract 0 (bt210.1 : Int).toNat).size + ((a2.extract (bt213.1 : Int).toNat a2.size).extract 0 1).size ≤ 9223372036854775807 then (if 0 ≤ (wrap64 (bt210.1 + 1)) then (if (wrap64 (bt210.1 + 1)) ≤ (a1.size : Int) then (if ((a1.extract 0 (bt210.1 : Int).toNat) ++ ((a2.extract (bt213.1 : Int).toNat a2.size).extract 0 1)).size + (a1.extract ((wrap64 (bt210.1 + 1)) : Int).toNat a1.size).size ≤ 9223372036854775807 then (some (((a1.extract 0 (bt210.1 : Int).toNat) ++ ((a2.extract (bt213.1 : Int).toNat a2.size).extract 0 1)) ++ (a1.extract ((wrap64 (bt210.1 + 1)) : Int).toNat a1.size),bt216.2.1,bt216.2.2)) else (none)) else (none)) else (none)) else (none)) else (none)) else (none)) else (if 0 ≤ bt210.1 then (if bt210.1 ≤ (a1.size : Int) then (if 0 ≤ (wrap64 (bt210.1 + 1)) then (if (wrap64 (bt210.1 + 1)) ≤ (a1.size : Int) then (if (a1.extract 0 (bt210.1 : Int).toNat).size + (a1.extract ((wrap64 (bt210.1 + 1)) : Int).toNat a1.size).size ≤ 9223372036854775807 then (some ((a1.extract 0 (bt210.1 : Int).toNat) ++ (a1.extract ((wrap64 (bt210.1 + 1)) : Int).toNat a1.size),bt216.2.1,bt216.2.2)) else (none)) else (none)) else (none)) else (none)) else (none))))) else (none)) else (none)) else (none)) else (none))))
set_option maxHeartbeats 8000000 in
set_option maxRecDepth 100000 in
theorem spec_l1Cur_spoilt.calls (g : Nat) (s0_0 : List Int) (s0_1 : Int) (s0_2 : Int) (a1 : ByteArray) (a2 : ByteArray) (r1 : ByteArray) (r2 : Int) (r3 : Int) (w0 w : World) (hI : IsS46 w0 w g s0_0 s0_1 s0_2) (hB : Below w0.heap.size w0 w) (h : spec_l1Cur_spoilt.f s0_0 s0_1 s0_2 a1 a2 = some (r1,r2,r3)) :
  Calls Try.prog 59 #[.pointer (some ⟨g,0,none⟩), .string a1, .string a2] w fun e w' => e = .returned (.string r1) ∧ IsS46 w0 w' g s0_0 r2 r3 ∧ Below w0.heap.size w0 w' ∧ KeepBut w w' g none:=by
 have HI0:=Aside0.mk hI
 have HK:=Aside0.mk (KeepBut.refl w g none)
 have HL:=Aside0.mk hB.size
 clear hI
 have HW0:=Aside0.mk hB.size
 have HB:=Aside0.mk hB
 clear hB
 have H : (if a1.toList = ([] : List UInt8) then (if 0 ≤ 1 then (if 1 ≤ (a2.size : Int) then (some (a2.extract 0 1,s0_1,s0_2)) else (none)) else (none)) else ((spec_l1Cur_pick.f s0_0 s0_1 s0_2 (a1.size : Int)).bind fun bt210 => ((spec_l1Cur_pick.f s0_0 bt210.2.1 bt210.2.2 (a2.size : Int)).bind fun bt213 => (if 0 ≤ bt213.1 then (if bt213.1 ≤ (a2.size : Int) then (if 0 ≤ 1 then (if 1 ≤ ((a2.extract (bt213.1 : Int).toNat a2.size).size : Int) then ((spec_l1Cur_pick.f s0_0 bt213.2.1 bt213.2.2 3).bind fun bt216 => (if bt216.1 = 0 then (if 0 ≤ bt210.1 then (if bt210.1 ≤ (a1.size : Int) then (if (a1.extract 0 (bt210.1 : Int).toNat).size + ((a2.extract (bt213.1 : Int).toNat a2.size).extract 0 1).size ≤ 9223372036854775807 then (if ((a1.extract 0 (bt210.1 : Int).toNat) ++ ((a2.extract (bt213.1 : Int).toNat a2.size).extract 0 1)).size + (a1.extract (bt210.1 : Int).toNat a1.size).size ≤ 9223372036854775807 then (some (((a1.extract 0 (bt210.1 : Int).toNat) ++ ((a2.extract (bt213.1 : Int).toNat a2.size).extract 0 1)) ++ (a1.extract (bt210.1 : Int).toNat a1.size),bt216.2.1,bt216.2.2)) else (none)) else (none)) else (none)) else (none)) else (if bt216.1 = 1 then (if 0 ≤ bt210.1 then (if bt210.1 ≤ (a1.size : Int) then (if (a1.extract 0 (bt210.1 : Int).toNat).size + ((a2.extract (bt213.1 : Int).toNat a2.size).extract 0 1).size ≤ 9223372036854775807 then (if 0 ≤ (wrap64 (bt210.1 + 1)) then (if (wrap64 (bt210.1 + 1)) ≤ (a1.size : Int) then (if ((a1.extract 0 (bt210.1 : Int).toNat) ++ ((a2.extract (bt213.1 : Int).toNat a2.size).extract 0 1)).size + (a1.extract ((wrap64 (bt210.1 + 1)) : Int).toNat a1.size).size ≤ 9223372036854775807 then (some (((a1.extract 0 (bt210.1 : Int).toNat) ++ ((a2.extract (bt213.1 : Int).toNat a2.size).extract 0 1)) ++ (a1.extract ((wrap64 (bt210.1 + 1)) : Int).toNat a1.size),bt216.2.1,bt216.2.2)) else (none)) else (none)) else (none)) else (none)) else (none)) else (none)) else (if 0 ≤ bt210.1 then (if bt210.1 ≤ (a1.size : Int) then (if 0 ≤ (wrap64 (bt210.1 + 1)) then (if (wrap64 (bt210.1 + 1)) ≤ (a1.size : Int) then (if (a1.extract 0 (bt210.1 : Int).toNat).size + (a1.extract ((wrap64 (bt210.1 + 1)) : Int).toNat a1.size).size ≤ 9223372036854775807 then (some ((a1.extract 0 (bt210.1 : Int).toNat) ++ (a1.extract ((wrap64 (bt210.1 + 1)) : Int).toNat a1.size),bt216.2.1,bt216.2.2)) else (none)) else (none)) else (none)) else (none)) else (none))))) else (none)) else (none)) else (none)) else (none))))) = some (r1,r2,r3):=h
 clear h
 by_cases c4 : a1.toList = ([] : List UInt8)
 ·rw [if_pos c4] at H
  have c4b0 : (a1.toList == ([] : List UInt8)) = true:=beq_iff_eq.mpr c4
  have c4b1 : (a1.toList != ([] : List UInt8)) = false:=bne_eq_false_iff_eq.mpr c4
  clear c4
  by_cases c5 : 0 ≤ 1
  ·rw [if_pos c5] at H
   have c5b0:=eq_true c5
   have c5b1 : decide (0 ≤ 1) = true:=decide_eq_true c5
   clear c5
   by_cases c6 : 1 ≤ (a2.size : Int)
   ·rw [if_pos c6] at H
    have c6b0:=eq_true c6
    have c6b1 : decide (1 ≤ (a2.size : Int)) = true:=decide_eq_true c6
    clear c6
    simp only [Option.some.injEq,Prod.mk.injEq] at H
    obtain ⟨rfl,rfl,rfl⟩ := H
    go_enter Try.func59,Try.ntmps59
    go_wp2
    repeat (go_quiet (fail);try go_wp2)
    go_ret
    exact ⟨by rfl,by exact HI0.out,by exact HB.out,by exact HK.out⟩
   ·rw [if_neg c6] at H
    exact absurd H (by simp)
  ·rw [if_neg c5] at H
   exact absurd H (by simp)
 ·rw [if_neg c4] at H
  have c4b0 : (a1.toList == ([] : List UInt8)) = false:=beq_eq_false_iff_ne.mpr c4
  have c4b1 : (a1.toList != ([] : List UInt8)) = true:=bne_iff_ne.mpr c4
  replace H:=Option.bind_eq_some_iff.mp H
  obtain ⟨⟨t210,t211,t212⟩,A70,H⟩ := H
  replace H : ((spec_l1Cur_pick.f s0_0 t211 t212 (a2.size : Int)).bind fun bt213 => (if 0 ≤ bt213.1 then (if bt213.1 ≤ (a2.size : Int) then (if 0 ≤ 1 then (if 1 ≤ ((a2.extract (bt213.1 : Int).toNat a2.size).size : Int) then ((spec_l1Cur_pick.f s0_0 bt213.2.1 bt213.2.2 3).bind fun bt216 => (if bt216.1 = 0 then (if 0 ≤ t210 then (if t210 ≤ (a1.size : Int) then (if (a1.extract 0 (t210 : Int).toNat).size + ((a2.extract (bt213.1 : Int).toNat a2.size).extract 0 1).size ≤ 9223372036854775807 then (if ((a1.extract 0 (t210 : Int).toNat) ++ ((a2.extract (bt213.1 : Int).toNat a2.size).extract 0 1)).size + (a1.extract (t210 : Int).toNat a1.size).size ≤ 9223372036854775807 then (some (((a1.extract 0 (t210 : Int).toNat) ++ ((a2.extract (bt213.1 : Int).toNat a2.size).extract 0 1)) ++ (a1.extract (t210 : Int).toNat a1.size),bt216.2.1,bt216.2.2)) else (none)) else (none)) else (none)) else (none)) else (if bt216.1 = 1 then (if 0 ≤ t210 then (if t210 ≤ (a1.size : Int) then (if (a1.extract 0 (t210 : Int).toNat).size + ((a2.extract (bt213.1 : Int).toNat a2.size).extract 0 1).size ≤ 9223372036854775807 then (if 0 ≤ (wrap64 (t210 + 1)) then (if (wrap64 (t210 + 1)) ≤ (a1.size : Int) then (if ((a1.extract 0 (t210 : Int).toNat) ++ ((a2.extract (bt213.1 : Int).toNat a2.size).extract 0 1)).size + (a1.extract ((wrap64 (t210 + 1)) : Int).toNat a1.size).size ≤ 9223372036854775807 then (some (((a1.extract 0 (t210 : Int).toNat) ++ ((a2.extract (bt213.1 : Int).toNat a2.size).extract 0 1)) ++ (a1.extract ((wrap64 (t210 + 1)) : Int).toNat a1.size),bt216.2.1,bt216.2.2)) else (none)) else (none)) else (none)) else (none)) else (none)) else (none)) else (if 0 ≤ t210 then (if t210 ≤ (a1.size : Int) then (if 0 ≤ (wrap64 (t210 + 1)) then (if (wrap64 (t210 + 1)) ≤ (a1.size : Int) then (if (a1.extract 0 (t210 : Int).toNat).size + (a1.extract ((wrap64 (t210 + 1)) : Int).toNat a1.size).size ≤ 9223372036854775807 then (some ((a1.extract 0 (t210 : Int).toNat) ++ (a1.extract ((wrap64 (t210 + 1)) : Int).toNat a1.size),bt216.2.1,bt216.2.2)) else (none)) else (none)) else (none)) else (none)) else (none))))) else (none)) else (none)) else (none)) else (none))) = some (r1,r2,r3):=H
  have A7:=Aside0.mk A70
  clear A70
  replace H:=Option.bind_eq_some_iff.mp H
  obtain ⟨⟨t213,t214,t215⟩,A80,H⟩ := H
  replace H : (if 0 ≤ t213 then (if t213 ≤ (a2.size : Int) then (if 0 ≤ 1 then (if 1 ≤ ((a2.extract (t213 : Int).toNat a2.size).size : Int) then ((spec_l1Cur_pick.f s0_0 t214 t215 3).bind fun bt216 => (if bt216.1 = 0 then (if 0 ≤ t210 then (if t210 ≤ (a1.size : Int) then (if (a1.extract 0 (t210 : Int).toNat).size + ((a2.extract (t213 : Int).toNat a2.size).extract 0 1).size ≤ 9223372036854775807 then (if ((a1.extract 0 (t210 : Int).toNat) ++ ((a2.extract (t213 : Int).toNat a2.size).extract 0 1)).size + (a1.extract (t210 : Int).toNat a1.size).size ≤ 9223372036854775807 then (some (((a1.extract 0 (t210 : Int).toNat) ++ ((a2.extract (t213 : Int).toNat a2.size).extract 0 1)) ++ (a1.extract (t210 : Int).toNat a1.size),bt216.2.1,bt216.2.2)) else (none)) else (none)) else (none)) else (none)) else (if bt216.1 = 1 then (if 0 ≤ t210 then (if t210 ≤ (a1.size : Int) then (if (a1.extract 0 (t210 : Int).toNat).size + ((a2.extract (t213 : Int).toNat a2.size).extract 0 1).size ≤ 9223372036854775807 then (if 0 ≤ (wrap64 (t210 + 1)) then (if (wrap64 (t210 + 1)) ≤ (a1.size : Int) then (if ((a1.extract 0 (t210 : Int).toNat) ++ ((a2.extract (t213 : Int).toNat a2.size).extract 0 1)).size + (a1.extract ((wrap64 (t210 + 1)) : Int).toNat a1.size).size ≤ 9223372036854775807 then (some (((a1.extract 0 (t210 : Int).toNat) ++ ((a2.extract (t213 : Int).toNat a2.size).extract 0 1)) ++ (a1.extract ((wrap64 (t210 + 1)) : Int).toNat a1.size),bt216.2.1,bt216.2.2)) else (none)) else (none)) else (none)) else (none)) else (none)) else (none)) else (if 0 ≤ t210 then (if t210 ≤ (a1.size : Int) then (if 0 ≤ (wrap64 (t210 + 1)) then (if (wrap64 (t210 + 1)) ≤ (a1.size : Int) then (if (a1.extract 0 (t210 : Int).toNat).size + (a1.extract ((wrap64 (t210 + 1)) : Int).toNat a1.size).size ≤ 9223372036854775807 then (some ((a1.extract 0 (t210 : Int).toNat) ++ (a1.extract ((wrap64 (t210 + 1)) : Int).toNat a1.size),bt216.2.1,bt216.2.2)) else (none)) else (none)) else (none)) else (none)) else (none))))) else (none)) else (none)) else (none)) else (none)) = some (r1,r2,r3):=H
  have A8:=Aside0.mk A80
  clear A80
  by_cases c9 : 0 ≤ t213
  ·rw [if_pos c9] at H
   have c9b0:=eq_true c9
   have c9b1 : decide (0 ≤ t213) = true:=decide_eq_true c9
   clear c9
   by_cases c10 : t213 ≤ (a2.size : Int)
   ·rw [if_pos c10] at H
    have c10b0:=eq_true c10
    have c10b1 : decide (t213 ≤ (a2.size : Int)) = true:=decide_eq_true c10
    clear c10
    by_cases c11 : 0 ≤ 1
    ·rw [if_pos c11] at H
     have c11b0:=eq_true c11
     have c11b1 : decide (0 ≤ 1) = true:=decide_eq_true c11
     clear c11
     by_cases c12 : 1 ≤ ((a2.extract (t213 : Int).toNat a2.size).size : Int)
     ·rw [if_pos c12] at H
      have c12b0:=eq_true c12
      have c12b9 : (1 ≤ ((a2.size - (t213 : Int).toNat : Nat) : Int)) = True:=by have h_:=c12b0;rw [ByteArray.size_extract,Nat.min_self] at h_;exact h_
      have c12b1 : decide (1 ≤ ((a2.extract (t213 : Int).toNat a2.size).size : Int)) = true:=decide_eq_true c12
      clear c12
      replace H:=Option.bind_eq_some_iff.mp H
      obtain ⟨⟨t216,t217,t218⟩,A130,H⟩ := H
      replace H : (if t216 = 0 then (if 0 ≤ t210 then (if t210 ≤ (a1.size : Int) then (if (a1.extract 0 (t210 : Int).toNat).size + ((a2.extract (t213 : Int).toNat a2.size).extract 0 1).size ≤ 9223372036854775807 then (if ((a1.extract 0 (t210 : Int).toNat) ++ ((a2.extract (t213 : Int).toNat a2.size).extract 0 1)).size + (a1.extract (t210 : Int).toNat a1.size).size ≤ 9223372036854775807 then (some (((a1.extract 0 (t210 : Int).toNat) ++ ((a2.extract (t213 : Int).toNat a2.size).extract 0 1)) ++ (a1.extract (t210 : Int).toNat a1.size),t217,t218)) else (none)) else (none)) else (none)) else (none)) else (if t216 = 1 then (if 0 ≤ t210 then (if t210 ≤ (a1.size : Int) then (if (a1.extract 0 (t210 : Int).toNat).size + ((a2.extract (t213 : Int).toNat a2.size).extract 0 1).size ≤ 9223372036854775807 then (if 0 ≤ (wrap64 (t210 + 1)) then (if (wrap64 (t210 + 1)) ≤ (a1.size : Int) then (if ((a1.extract 0 (t210 : Int).toNat) ++ ((a2.extract (t213 : Int).toNat a2.size).extract 0 1)).size + (a1.extract ((wrap64 (t210 + 1)) : Int).toNat a1.size).size ≤ 9223372036854775807 then (some (((a1.extract 0 (t210 : Int).toNat) ++ ((a2.extract (t213 : Int).toNat a2.size).extract 0 1)) ++ (a1.extract ((wrap64 (t210 + 1)) : Int).toNat a1.size),t217,t218)) else (none)) else (none)) else (none)) else (none)) else (none)) else (none)) else (if 0 ≤ t210 then (if t210 ≤ (a1.size : Int) then (if 0 ≤ (wrap64 (t210 + 1)) then (if (wrap64 (t210 + 1)) ≤ (a1.size : Int) then (if (a1.extract 0 (t210 : Int).toNat).size + (a1.extract ((wrap64 (t210 + 1)) : Int).toNat a1.size).size ≤ 9223372036854775807 then (some ((a1.extract 0 (t210 : Int).toNat) ++ (a1.extract ((wrap64 (t210 + 1)) : Int).toNat a1.size),t217,t218)) else (none)) else (none)) else (none)) else (none)) else (none)))) = some (r1,r2,r3):=H
      have A13:=Aside0.mk A130
      clear A130
      by_cases c14 : t216 = 0
      ·rw [if_pos c14] at H
       have c14b0 : (t216 == 0) = true:=beq_iff_eq.mpr c14
       have c14b1 : (t216 != 0) = false:=bne_eq_false_iff_eq.mpr c14
       clear c14
       by_cases c15 : 0 ≤ t210
       ·rw [if_pos c15] at H
        have c15b0:=eq_true c15
        have c15b1 : decide (0 ≤ t210) = true:=decide_eq_true c15
        clear c15
        by_cases c16 : t210 ≤ (a1.size : Int)
        ·rw [if_pos c16] at H
         have c16b0:=eq_true c16
         have c16b1 : decide (t210 ≤ (a1.size : Int)) = true:=decide_eq_true c16
         clear c16
         by_cases c17 : (a1.extract 0 (t210 : Int).toNat).size + ((a2.extract (t213 : Int).toNat a2.size).extract 0 1).size ≤ 9223372036854775807
         ·rw [if_pos c17] at H
          have c17b0:=eq_true c17
          have c17b1 : decide ((a1.extract 0 (t210 : Int).toNat).size + ((a2.extract (t213 : Int).toNat a2.size).extract 0 1).size ≤ 9223372036854775807) = true:=decide_eq_true c17
          try have c17b2 : (9223372036854775807 < (a1.extract 0 (t210 : Int).toNat).size + ((a2.extract (t213 : Int).toNat a2.size).extract 0 1).size) = False:=eq_false (Nat.not_lt.2 c17)
          have c18b0:=eq_true (of_decide_eq_true (by (with_reducible assumption)) : 0 ≤ t210)
          have c19b0:=eq_true (of_decide_eq_true (by (with_reducible assumption)) : t210 ≤ (a1.size : Int))
          by_cases c20 : ((a1.extract 0 (t210 : Int).toNat) ++ ((a2.extract (t213 : Int).toNat a2.size).extract 0 1)).size + (a1.extract (t210 : Int).toNat a1.size).size ≤ 9223372036854775807
          ·rw [if_pos c20] at H
           have c20b0:=eq_true c20
           have c20b1 : decide (((a1.extract 0 (t210 : Int).toNat) ++ ((a2.extract (t213 : Int).toNat a2.size).extract 0 1)).size + (a1.extract (t210 : Int).toNat a1.size).size ≤ 9223372036854775807) = true:=decide_eq_true c20
           try have c20b2 : (9223372036854775807 < ((a1.extract 0 (t210 : Int).toNat) ++ ((a2.extract (t213 : Int).toNat a2.size).extract 0 1)).size + (a1.extract (t210 : Int).toNat a1.size).size) = False:=eq_false (Nat.not_lt.2 c20)
           simp only [Option.some.injEq,Prod.mk.injEq] at H
           obtain ⟨rfl,rfl,rfl⟩ := H
           go_enter Try.func59,Try.ntmps59
           go_wp2_with (first | (go_at_call 21;(with_reducible refine (spec_l1Cur_pick.calls g s0_0 s0_1 s0_2 (a1.size : Int) t210 t211 t212 w0 _ ?side1 ?side2 A7.out).mono ?_);(case side1 => exact HI0.out);(case side2 => exact HB.out);rintro e w21 ⟨rfl,hi,hb,hk⟩;have n0_:=Aside0.mk (KeepBut.trans (by exact HK.out) hk (.inl rfl));have n1_:=Aside0.mk (hb);have n2_:=Aside0.mk (hi);clear HK;clear HB;clear HI0;have HK:=n0_;have HB:=n1_;have HI0:=n2_;clear n0_ n1_ n2_;(try clear hb);(try clear hk);(try clear hi)) | (go_at_call 21;(with_reducible refine (spec_l1Cur_pick.calls g s0_0 t211 t212 (a2.size : Int) t213 t214 t215 w0 _ ?side1 ?side2 A8.out).mono ?_);(case side1 => exact HI0.out);(case side2 => exact HB.out);rintro e w22 ⟨rfl,hi,hb,hk⟩;have n0_:=Aside0.mk (KeepBut.trans (by exact HK.out) hk (.inl rfl));have n1_:=Aside0.mk (hb);have n2_:=Aside0.mk (hi);clear HK;clear HB;clear HI0;have HK:=n0_;have HB:=n1_;have HI0:=n2_;clear n0_ n1_ n2_;(try clear hb);(try clear hk);(try clear hi)) | (go_at_call 21;(with_reducible refine (spec_l1Cur_pick.calls g s0_0 t214 t215 3 t216 t217 t218 w0 _ ?side1 ?side2 A13.out).mono ?_);(case side1 => exact HI0.out);(case side2 => exact HB.out);rintro e w23 ⟨rfl,hi,hb,hk⟩;have n0_:=Aside0.mk (KeepBut.trans (by exact HK.out) hk (.inl rfl));have n1_:=Aside0.mk (hb);have n2_:=Aside0.mk (hi);clear HK;clear HB;clear HI0;have HK:=n0_;have HB:=n1_;have HI0:=n2_;clear n0_ n1_ n2_;(try clear hb);(try clear hk);(try clear hi)))
           repeat (go_quiet (fail);try go_wp2_with (fail))
           go_ret
           exact ⟨by rfl,by repeat ((with_reducible first | exact HI0.out | apply IsS46.drewN)),by repeat ((with_reducible first | exact HB.out | apply pw_below_drewN)),by repeat ((with_reducible first | exact HK.out | apply keep_drewN))⟩
          ·rw [if_neg c20] at H
           exact absurd H (by simp)
         ·rw [if_neg c17] at H
          exact absurd H (by simp)
        ·rw [if_neg c16] at H
         exact absurd H (by simp)
       ·rw [if_neg c15] at H
        exact absurd H (by simp)
      ·rw [if_neg c14] at H
       have c14b0 : (t216 == 0) = false:=beq_eq_false_iff_ne.mpr c14
       have c14b1 : (t216 != 0) = true:=bne_iff_ne.mpr c14
       by_cases c24 : t216 = 1
       ·rw [if_pos c24] at H
        have c24b0 : (t216 == 1) = true:=beq_iff_eq.mpr c24
        have c24b1 : (t216 != 1) = false:=bne_eq_false_iff_eq.mpr c24
        clear c24
        by_cases c25 : 0 ≤ t210
        ·rw [if_pos c25] at H
         have c25b0:=eq_true c25
         have c25b1 : decide (0 ≤ t210) = true:=decide_eq_true c25
         clear c25
         by_cases c26 : t210 ≤ (a1.size : Int)
         ·rw [if_pos c26] at H
          have c26b0:=eq_true c26
          have c26b1 : decide (t210 ≤ (a1.size : Int)) = true:=decide_eq_true c26
          clear c26
          by_cases c27 : (a1.extract 0 (t210 : Int).toNat).size + ((a2.extract (t213 : Int).toNat a2.size).extract 0 1).size ≤ 9223372036854775807
          ·rw [if_pos c27] at H
           have c27b0:=eq_true c27
           have c27b1 : decide ((a1.extract 0 (t210 : Int).toNat).size + ((a2.extract (t213 : Int).toNat a2.size).extract 0 1).size ≤ 9223372036854775807) = true:=decide_eq_true c27
           try have c27b2 : (9223372036854775807 < (a1.extract 0 (t210 : Int).toNat).size + ((a2.extract (t213 : Int).toNat a2.size).extract 0 1).size) = False:=eq_false (Nat.not_lt.2 c27)
           obtain ⟨ji28,hji28⟩ : ∃ j_ : Int,(wrap64 (t210 + 1)) = j_:=⟨_,rfl⟩
           replace H : (if 0 ≤ (ji28) then (if (ji28) ≤ (a1.size : Int) then (if ((a1.extract 0 (t210 : Int).toNat) ++ ((a2.extract (t213 : Int).toNat a2.size).extract 0 1)).size + (a1.extract ((ji28) : Int).toNat a1.size).size ≤ 9223372036854775807 then (some (((a1.extract 0 (t210 : Int).toNat) ++ ((a2.extract (t213 : Int).toNat a2.size).extract 0 1)) ++ (a1.extract ((ji28) : Int).toNat a1.size),t217,t218)) else (none)) else (none)) else (none)) = some (r1,r2,r3):=by (rw [hji28] at H;exact H)
           (skip)
           (skip)
           (skip)
           have hji28w : (IntKind.i64.wrap (t210 + 1)) = ji28:=(i64_w _).trans hji28
           by_cases c29 : 0 ≤ (ji28)
           ·rw [if_pos c29] at H
            have c29b0:=eq_true c29
            have c29b1 : decide (0 ≤ (ji28)) = true:=decide_eq_true c29
            clear c29
            by_cases c30 : (ji28) ≤ (a1.size : Int)
            ·rw [if_pos c30] at H
             have c30b0:=eq_true c30
             have c30b1 : decide ((ji28) ≤ (a1.size : Int)) = true:=decide_eq_true c30
             clear c30
             by_cases c31 : ((a1.extract 0 (t210 : Int).toNat) ++ ((a2.extract (t213 : Int).toNat a2.size).extract 0 1)).size + (a1.extract ((ji28) : Int).toNat a1.size).size ≤ 9223372036854775807
             ·rw [if_pos c31] at H
              have c31b0:=eq_true c31
              have c31b1 : decide (((a1.extract 0 (t210 : Int).toNat) ++ ((a2.extract (t213 : Int).toNat a2.size).extract 0 1)).size + (a1.extract ((ji28) : Int).toNat a1.size).size ≤ 9223372036854775807) = true:=decide_eq_true c31
              try have c31b2 : (9223372036854775807 < ((a1.extract 0 (t210 : Int).toNat) ++ ((a2.extract (t213 : Int).toNat a2.size).extract 0 1)).size + (a1.extract ((ji28) : Int).toNat a1.size).size) = False:=eq_false (Nat.not_lt.2 c31)
              simp only [Option.some.injEq,Prod.mk.injEq] at H
              obtain ⟨rfl,rfl,rfl⟩ := H
              go_enter Try.func59,Try.ntmps59
              go_wp2_with (first | (go_at_call 21;(with_reducible refine (spec_l1Cur_pick.calls g s0_0 s0_1 s0_2 (a1.size : Int) t210 t211 t212 w0 _ ?side1 ?side2 A7.out).mono ?_);(case side1 => exact HI0.out);(case side2 => exact HB.out);rintro e w32 ⟨rfl,hi,hb,hk⟩;have n0_:=Aside0.mk (KeepBut.trans (by exact HK.out) hk (.inl rfl));have n1_:=Aside0.mk (hb);have n2_:=Aside0.mk (hi);clear HK;clear HB;clear HI0;have HK:=n0_;have HB:=n1_;have HI0:=n2_;clear n0_ n1_ n2_;(try clear hb);(try clear hk);(try clear hi)) | (go_at_call 21;(with_reducible refine (spec_l1Cur_pick.calls g s0_0 t211 t212 (a2.size : Int) t213 t214 t215 w0 _ ?side1 ?side2 A8.out).mono ?_);(case side1 => exact HI0.out);(case side2 => exact HB.out);rintro e w33 ⟨rfl,hi,hb,hk⟩;have n0_:=Aside0.mk (KeepBut.trans (by exact HK.out) hk (.inl rfl));have n1_:=Aside0.mk (hb);have n2_:=Aside0.mk (hi);clear HK;clear HB;clear HI0;have HK:=n0_;have HB:=n1_;have HI0:=n2_;clear n0_ n1_ n2_;(try clear hb);(try clear hk);(try clear hi)) | (go_at_call 21;(with_reducible refine (spec_l1Cur_pick.calls g s0_0 t214 t215 3 t216 t217 t218 w0 _ ?side1 ?side2 A13.out).mono ?_);(case side1 => exact HI0.out);(case side2 => exact HB.out);rintro e w34 ⟨rfl,hi,hb,hk⟩;have n0_:=Aside0.mk (KeepBut.trans (by exact HK.out) hk (.inl rfl));have n1_:=Aside0.mk (hb);have n2_:=Aside0.mk (hi);clear HK;clear HB;clear HI0;have HK:=n0_;have HB:=n1_;have HI0:=n2_;clear n0_ n1_ n2_;(try clear hb);(try clear hk);(try clear hi)))
              repeat (go_quiet (fail);try go_wp2_with (fail))
              go_ret
              exact ⟨by rfl,by repeat ((with_reducible first | exact HI0.out | apply IsS46.drewN)),by repeat ((with_reducible first | exact HB.out | apply pw_below_drewN)),by repeat ((with_reducible first | exact HK.out | apply keep_drewN))⟩
             ·rw [if_neg c31] at H
              exact absurd H (by simp)
            ·rw [if_neg c30] at H
             exact absurd H (by simp)
           ·rw [if_neg c29] at H
            exact absurd H (by simp)
          ·rw [if_neg c27] at H
           exact absurd H (by simp)
         ·rw [if_neg c26] at H
          exact absurd H (by simp)
        ·rw [if_neg c25] at H
         exact absurd H (by simp)
       ·rw [if_neg c24] at H
        have c24b0 : (t216 == 1) = false:=beq_eq_false_iff_ne.mpr c24
        have c24b1 : (t216 != 1) = true:=bne_iff_ne.mpr c24
        by_cases c35 : 0 ≤ t210
        ·rw [if_pos c35] at H
         have c35b0:=eq_true c35
         have c35b1 : decide (0 ≤ t210) = true:=decide_eq_true c35
         clear c35
         by_cases c36 : t210 ≤ (a1.size : Int)
         ·rw [if_pos c36] at H
          have c36b0:=eq_true c36
          have c36b1 : decide (t210 ≤ (a1.size : Int)) = true:=decide_eq_true c36
          clear c36
          obtain ⟨ji37,hji37⟩ : ∃ j_ : Int,(wrap64 (t210 + 1)) = j_:=⟨_,rfl⟩
          replace H : (if 0 ≤ (ji37) then (if (ji37) ≤ (a1.size : Int) then (if (a1.extract 0 (t210 : Int).toNat).size + (a1.extract ((ji37) : Int).toNat a1.size).size ≤ 9223372036854775807 then (some ((a1.extract 0 (t210 : Int).toNat) ++ (a1.extract ((ji37) : Int).toNat a1.size),t217,t218)) else (none)) else (none)) else (none)) = some (r1,r2,r3):=by (rw [hji37] at H;exact H)
          (skip)
          (skip)
          (skip)
          have hji37w : (IntKind.i64.wrap (t210 + 1)) = ji37:=(i64_w _).trans hji37
          by_cases c38 : 0 ≤ (ji37)
          ·rw [if_pos c38] at H
           have c38b0:=eq_true c38
           have c38b1 : decide (0 ≤ (ji37)) = true:=decide_eq_true c38
           clear c38
           by_cases c39 : (ji37) ≤ (a1.size : Int)
           ·rw [if_pos c39] at H
            have c39b0:=eq_true c39
            have c39b1 : decide ((ji37) ≤ (a1.size : Int)) = true:=decide_eq_true c39
            clear c39
            by_cases c40 : (a1.extract 0 (t210 : Int).toNat).size + (a1.extract ((ji37) : Int).toNat a1.size).size ≤ 9223372036854775807
            ·rw [if_pos c40] at H
             have c40b0:=eq_true c40
             have c40b1 : decide ((a1.extract 0 (t210 : Int).toNat).size + (a1.extract ((ji37) : Int).toNat a1.size).size ≤ 9223372036854775807) = true:=decide_eq_true c40
             try have c40b2 : (9223372036854775807 < (a1.extract 0 (t210 : Int).toNat).size + (a1.extract ((ji37) : Int).toNat a1.size).size) = False:=eq_false (Nat.not_lt.2 c40)
             simp only [Option.some.injEq,Prod.mk.injEq] at H
             obtain ⟨rfl,rfl,rfl⟩ := H
             go_enter Try.func59,Try.ntmps59
             go_wp2_with (first | (go_at_call 21;(with_reducible refine (spec_l1Cur_pick.calls g s0_0 s0_1 s0_2 (a1.size : Int) t210 t211 t212 w0 _ ?side1 ?side2 A7.out).mono ?_);(case side1 => exact HI0.out);(case side2 => exact HB.out);rintro e w41 ⟨rfl,hi,hb,hk⟩;have n0_:=Aside0.mk (KeepBut.trans (by exact HK.out) hk (.inl rfl));have n1_:=Aside0.mk (hb);have n2_:=Aside0.mk (hi);clear HK;clear HB;clear HI0;have HK:=n0_;have HB:=n1_;have HI0:=n2_;clear n0_ n1_ n2_;(try clear hb);(try clear hk);(try clear hi)) | (go_at_call 21;(with_reducible refine (spec_l1Cur_pick.calls g s0_0 t211 t212 (a2.size : Int) t213 t214 t215 w0 _ ?side1 ?side2 A8.out).mono ?_);(case side1 => exact HI0.out);(case side2 => exact HB.out);rintro e w42 ⟨rfl,hi,hb,hk⟩;have n0_:=Aside0.mk (KeepBut.trans (by exact HK.out) hk (.inl rfl));have n1_:=Aside0.mk (hb);have n2_:=Aside0.mk (hi);clear HK;clear HB;clear HI0;have HK:=n0_;have HB:=n1_;have HI0:=n2_;clear n0_ n1_ n2_;(try clear hb);(try clear hk);(try clear hi)) | (go_at_call 21;(with_reducible refine (spec_l1Cur_pick.calls g s0_0 t214 t215 3 t216 t217 t218 w0 _ ?side1 ?side2 A13.out).mono ?_);(case side1 => exact HI0.out);(case side2 => exact HB.out);rintro e w43 ⟨rfl,hi,hb,hk⟩;have n0_:=Aside0.mk (KeepBut.trans (by exact HK.out) hk (.inl rfl));have n1_:=Aside0.mk (hb);have n2_:=Aside0.mk (hi);clear HK;clear HB;clear HI0;have HK:=n0_;have HB:=n1_;have HI0:=n2_;clear n0_ n1_ n2_;(try clear hb);(try clear hk);(try clear hi)))
             repeat (go_quiet (fail);try go_wp2_with (fail))
             go_ret
             exact ⟨by rfl,by repeat ((with_reducible first | exact HI0.out | apply IsS46.drewN)),by repeat ((with_reducible first | exact HB.out | apply pw_below_drewN)),by repeat ((with_reducible first | exact HK.out | apply keep_drewN))⟩
            ·rw [if_neg c40] at H
             exact absurd H (by simp)
           ·rw [if_neg c39] at H
            exact absurd H (by simp)
          ·rw [if_neg c38] at H
           exact absurd H (by simp)
         ·rw [if_neg c36] at H
          exact absurd H (by simp)
        ·rw [if_neg c35] at H
         exact absurd H (by simp)
     ·rw [if_neg c12] at H
      exact absurd H (by simp)
    ·rw [if_neg c11] at H
     exact absurd H (by simp)
   ·rw [if_neg c10] at H
    exact absurd H (by simp)
  ·rw [if_neg c9] at H
   exact absurd H (by simp)

/-! ### spec_l1Cur_anyId: function 52 -/
def spec_l1Cur_anyId.j0 : Nat → ByteArray → List Int → Int → Int → Option (ByteArray × Int × Int)
 | 0,_,_,_,_ => none
 | k + 1,x3,x1000,x1001,x1002 => (spec_l1Cur_one.f x1000 x1001 x1002 24).bind fun bt228 => (if bt228.1 = true then ((spec_l2Number.f k (⟨#[81,81,81]⟩ : ByteArray) 9999).bind fun t231 => (some (t231,bt228.2.1,bt228.2.2))) else (some (x3,bt228.2.1,bt228.2.2)))
def spec_l1Cur_anyId.f (k : Nat) (s0_0 : List Int) (s0_1 : Int) (s0_2 : Int) : Option (ByteArray × Int × Int):=(spec_l1Cur_id.f k s0_0 s0_1 s0_2).bind fun bt219 => ((spec_l1Cur_one.f s0_0 bt219.2.1 bt219.2.2 8).bind fun bt222 => (if bt222.1 = true then ((spec_l1Cur_spoilt.f s0_0 bt222.2.1 bt222.2.2 bt219.1 (⟨#[65,48,66,49]⟩ : ByteArray)).bind fun bt225 => (spec_l1Cur_anyId.j0 k bt225.1 s0_0 bt225.2.1 bt225.2.2)) else (spec_l1Cur_anyId.j0 k bt219.1 s0_0 bt222.2.1 bt222.2.2)))
theorem spec_l1Cur_anyId.mono_l : ∀ k,(∀ y0 y1 y2 y3,LeO (spec_l1Cur_anyId.j0 k y0 y1 y2 y3) (spec_l1Cur_anyId.j0 (k + 1) y0 y1 y2 y3))
 | 0 => fun _ _ _ _ r h => by simp [spec_l1Cur_anyId.j0] at h
 | k + 1 => by
  have ih0:=spec_l1Cur_anyId.mono_l k
  ·intro y0 y1 y2 y3
   unfold spec_l1Cur_anyId.j0
   repeat' first
   | (with_reducible exact ih0 _ _ _ _)
   | (with_reducible exact spec_l1Cur_id.mono _ _ _ _)
   | (with_reducible exact spec_l2Number.mono _ _ _)
   | (with_reducible exact LeO.refl _)
   | (with_reducible exact LeO.none _)
   | (with_reducible refine LeO.ite ?_ ?_)
   | (with_reducible refine LeO.bind ?_ (fun _ => ?_))
   | exact ih0 _ _ _ _
   | exact spec_l1Cur_id.mono _ _ _ _
   | exact spec_l2Number.mono _ _ _
   | exact LeO.none _
   | refine LeO.ite ?_ ?_
   | refine LeO.bind ?_ (fun _ => ?_)
theorem spec_l1Cur_anyId.mono : ∀ a0 a1 a2 k,LeO (spec_l1Cur_anyId.f k a0 a1 a2) (spec_l1Cur_anyId.f (k + 1) a0 a1 a2):=by
 intro a0 a1 a2 k
 have ih0:=spec_l1Cur_anyId.mono_l k
 unfold spec_l1Cur_anyId.f
 repeat' first
   | (with_reducible exact ih0 _ _ _ _)
   | (with_reducible exact spec_l1Cur_id.mono _ _ _ _)
   | (with_reducible exact spec_l2Number.mono _ _ _)
   | (with_reducible exact LeO.refl _)
   | (with_reducible exact LeO.none _)
   | (with_reducible refine LeO.ite ?_ ?_)
   | (with_reducible refine LeO.bind ?_ (fun _ => ?_))
   | exact ih0 _ _ _ _
   | exact spec_l1Cur_id.mono _ _ _ _
   | exact spec_l2Number.mono _ _ _
   | exact LeO.none _
   | refine LeO.ite ?_ ?_
   | refine LeO.bind ?_ (fun _ => ?_)
set_option maxHeartbeats 8000000 in
set_option maxRecDepth 100000 in
theorem spec_l1Cur_anyId.calls (k : Nat) (g : Nat) (s0_0 : List Int) (s0_1 : Int) (s0_2 : Int) (r1 : ByteArray) (r2 : Int) (r3 : Int) (w0 w : World) (hI : IsS46 w0 w g s0_0 s0_1 s0_2) (hB : Below w0.heap.size w0 w) (h : spec_l1Cur_anyId.f k s0_0 s0_1 s0_2 = some (r1,r2,r3)) :
  Calls Try.prog 52 #[.pointer (some ⟨g,0,none⟩)] w fun e w' => e = .returned (.string r1) ∧ IsS46 w0 w' g s0_0 r2 r3 ∧ Below w0.heap.size w0 w' ∧ KeepBut w w' g none:=by
 have HI0:=Aside0.mk hI
 have HK:=Aside0.mk (KeepBut.refl w g none)
 have HL:=Aside0.mk hB.size
 clear hI
 have HW0:=Aside0.mk hB.size
 have HB:=Aside0.mk hB
 clear hB
 have H : ((spec_l1Cur_id.f k s0_0 s0_1 s0_2).bind fun bt219 => ((spec_l1Cur_one.f s0_0 bt219.2.1 bt219.2.2 8).bind fun bt222 => (if bt222.1 = true then ((spec_l1Cur_spoilt.f s0_0 bt222.2.1 bt222.2.2 bt219.1 (⟨#[65,48,66,49]⟩ : ByteArray)).bind fun bt225 => (spec_l1Cur_anyId.j0 k bt225.1 s0_0 bt225.2.1 bt225.2.2)) else (spec_l1Cur_anyId.j0 k bt219.1 s0_0 bt222.2.1 bt222.2.2)))) = some (r1,r2,r3):=h
 clear h
 replace H:=Option.bind_eq_some_iff.mp H
 obtain ⟨⟨t219,t220,t221⟩,A20,H⟩ := H
 replace H : ((spec_l1Cur_one.f s0_0 t220 t221 8).bind fun bt222 => (if bt222.1 = true then ((spec_l1Cur_spoilt.f s0_0 bt222.2.1 bt222.2.2 t219 (⟨#[65,48,66,49]⟩ : ByteArray)).bind fun bt225 => (spec_l1Cur_anyId.j0 k bt225.1 s0_0 bt225.2.1 bt225.2.2)) else (spec_l1Cur_anyId.j0 k t219 s0_0 bt222.2.1 bt222.2.2))) = some (r1,r2,r3):=H
 have A2:=Aside0.mk A20
 clear A20
 replace H:=Option.bind_eq_some_iff.mp H
 obtain ⟨⟨t222,t223,t224⟩,A30,H⟩ := H
 replace H : (if t222 = true then ((spec_l1Cur_spoilt.f s0_0 t223 t224 t219 (⟨#[65,48,66,49]⟩ : ByteArray)).bind fun bt225 => (spec_l1Cur_anyId.j0 k bt225.1 s0_0 bt225.2.1 bt225.2.2)) else (spec_l1Cur_anyId.j0 k t219 s0_0 t223 t224)) = some (r1,r2,r3):=H
 have A3:=Aside0.mk A30
 clear A30
 have HC4:=Aside0.mk H
 clear H
 go_enter Try.func52,Try.ntmps52
 go_upto_if 7 with (first | ((with_reducible refine gate_callee (f:=51) rfl ?_);refine goesL_ (some 5) rfl rfl Try.func51 (by kernel_rfl) rfl #[.pointer (some ⟨g,0,none⟩)] rfl (by (try simp only [List.map_toArray,List.map_cons,List.map_nil]);rfl) ?_;(with_reducible refine (spec_l1Cur_id.calls k g s0_0 s0_1 s0_2 t219 t220 t221 w0 _ ?side1 ?side2 A2.out).mono ?_);(case side1 => exact HI0.out);(case side2 => exact HB.out);rintro e w5 ⟨rfl,hi,hb,hk⟩;refine ⟨_,rfl, ?_⟩;have n0_:=Aside0.mk (KeepBut.trans (by exact HK.out) hk (.inl rfl));have n1_:=Aside0.mk (hb);have n2_:=Aside0.mk (hi);clear HK;clear HB;clear HI0;have HK:=n0_;have HB:=n1_;have HI0:=n2_;clear n0_ n1_ n2_;(try clear hb);(try clear hk);(try clear hi)) | ((with_reducible refine gate_callee (f:=20) rfl ?_);refine goesL_ (some 7) rfl rfl Try.func20 (by kernel_rfl) rfl #[.pointer (some ⟨g,0,none⟩), .int .i64 8] rfl (by (try simp only [List.map_toArray,List.map_cons,List.map_nil]);rfl) ?_;(with_reducible refine (spec_l1Cur_one.calls g s0_0 t220 t221 8 t222 t223 t224 w0 _ ?side1 ?side2 A3.out).mono ?_);(case side1 => exact HI0.out);(case side2 => exact HB.out);rintro e w6 ⟨rfl,hi,hb,hk⟩;refine ⟨_,rfl, ?_⟩;have n0_:=Aside0.mk (KeepBut.trans (by exact HK.out) hk (.inl rfl));have n1_:=Aside0.mk (hb);have n2_:=Aside0.mk (hi);clear HK;clear HB;clear HI0;have HK:=n0_;have HB:=n1_;have HI0:=n2_;clear n0_ n1_ n2_;(try clear hb);(try clear hk);(try clear hi)))
 (try simp only [Act.put,sA_,s0_,s1_])
 go_cut [3] (fun v3 wc => ∃ (kq : Nat) (x3_3 : ByteArray) (x1001_3 : Int) (x1002_3 : Int),v3 = .string x3_3 ∧ Aside0 (spec_l1Cur_anyId.j0 kq x3_3 s0_0 x1001_3 x1002_3 = some (r1,r2,r3)) ∧ Aside0 (kq ≤ k) ∧ Aside0 (IsS46 w0 wc g s0_0 x1001_3 x1002_3) ∧ Aside0 (KeepBut w wc g none) ∧ Aside0 (Below w0.heap.size w0 wc))
 case first =>
  have H:=HC4.out
  clear HC4
  by_cases c7 : t222 = true
  ·subst c7
   have H1 : ((spec_l1Cur_spoilt.f s0_0 t223 t224 t219 (⟨#[65,48,66,49]⟩ : ByteArray)).bind fun bt225 => (spec_l1Cur_anyId.j0 k bt225.1 s0_0 bt225.2.1 bt225.2.2)) = some (r1,r2,r3):=by rw [if_pos rfl] at H;exact H
   clear H
   have H:=H1
   clear H1
   replace H:=Option.bind_eq_some_iff.mp H
   obtain ⟨⟨t225,t226,t227⟩,A80,H⟩ := H
   replace H : (spec_l1Cur_anyId.j0 k t225 s0_0 t226 t227) = some (r1,r2,r3):=H
   have A8:=Aside0.mk A80
   clear A80
   have H':=Aside0.mk H
   clear H
   go_wp2_with (((with_reducible refine gate_callee (f:=59) rfl ?_);refine goesL_ (some 10) rfl rfl Try.func59 (by kernel_rfl) rfl #[.pointer (some ⟨g,0,none⟩), .string t219, .string (⟨#[65,48,66,49]⟩ : ByteArray)] rfl (by (try simp only [List.map_toArray,List.map_cons,List.map_nil]);rfl) ?_;(with_reducible refine (spec_l1Cur_spoilt.calls g s0_0 t223 t224 t219 (⟨#[65,48,66,49]⟩ : ByteArray) t225 t226 t227 w0 _ ?side1 ?side2 A8.out).mono ?_);(case side1 => exact HI0.out);(case side2 => exact HB.out);rintro e w9 ⟨rfl,hi,hb,hk⟩;refine ⟨_,rfl, ?_⟩;have n0_:=Aside0.mk (KeepBut.trans (by exact HK.out) hk (.inl rfl));have n1_:=Aside0.mk (hb);have n2_:=Aside0.mk (hi);clear HK;clear HB;clear HI0;have HK:=n0_;have HB:=n1_;have HI0:=n2_;clear n0_ n1_ n2_;(try clear hb);(try clear hk);(try clear hi)))
   go_meet
   case rel => exact ⟨_,(t225),(t226),(t227),(by rfl),H',⟨by omega⟩,⟨by exact HI0.out⟩,⟨by exact HK.out⟩,⟨by exact HB.out⟩⟩
  ·replace c7:=Bool.eq_false_iff.mpr c7
   subst c7
   have H1 : (spec_l1Cur_anyId.j0 k t219 s0_0 t223 t224) = some (r1,r2,r3):=by rw [if_neg (show ¬ (false = true) by decide)] at H;exact H
   clear H
   have H:=H1
   clear H1
   have H':=Aside0.mk H
   clear H
   go_wp2
   go_meet
   case rel => exact ⟨_,(t219),(t223),(t224),(by rfl),H',⟨by omega⟩,⟨by exact HI0.out⟩,⟨by exact HK.out⟩,⟨by exact HB.out⟩⟩
 case rest =>
  clear HC4
  try clear c2
  try clear p2
  try clear c5
  try clear c7
  obtain ⟨kq,x3_3,x1001_3,x1002_3,rfl,HA,HJ3,HI0,HK,HB⟩ := hcut
  cases kq with
  | zero => exact absurd HA.out (by simp [spec_l1Cur_anyId.j0])
  | succ kj3 =>
   have H:=HA.out
   clear HA
   simp only [spec_l1Cur_anyId.j0] at H
   replace H:=Option.bind_eq_some_iff.mp H
   obtain ⟨⟨t228,t229,t230⟩,A100,H⟩ := H
   replace H : (if t228 = true then ((spec_l2Number.f kj3 (⟨#[81,81,81]⟩ : ByteArray) 9999).bind fun t231 => (some (t231,t229,t230))) else (some (x3_3,t229,t230))) = some (r1,r2,r3):=H
   have A10:=Aside0.mk A100
   clear A100
   by_cases c11 : t228 = true
   ·subst c11
    have H1 : ((spec_l2Number.f kj3 (⟨#[81,81,81]⟩ : ByteArray) 9999).bind fun t231 => (some (t231,t229,t230))) = some (r1,r2,r3):=by rw [if_pos rfl] at H;exact H
    clear H
    have H:=H1
    clear H1
    replace H:=Option.bind_eq_some_iff.mp H
    obtain ⟨t231,A120,H⟩ := H
    replace H : (some (t231,t229,t230)) = some (r1,r2,r3):=H
    have A12:=Aside0.mk A120
    clear A120
    simp only [Option.some.injEq,Prod.mk.injEq] at H
    obtain ⟨rfl,rfl,rfl⟩ := H
    go_wp2_with (first | ((with_reducible refine gate_callee (f:=20) rfl ?_);refine goesL_ (some 12) rfl rfl Try.func20 (by kernel_rfl) rfl #[.pointer (some ⟨g,0,none⟩), .int .i64 24] rfl (by (try simp only [List.map_toArray,List.map_cons,List.map_nil]);rfl) ?_;(with_reducible refine (spec_l1Cur_one.calls g s0_0 x1001_3 x1002_3 24 true t229 t230 w0 _ ?side1 ?side2 A10.out).mono ?_);(case side1 => exact HI0.out);(case side2 => exact HB.out);rintro e w13 ⟨rfl,hi,hb,hk⟩;refine ⟨_,rfl, ?_⟩;have n0_:=Aside0.mk (KeepBut.trans (by exact HK.out) hk (.inl rfl));have n1_:=Aside0.mk (hb);have n2_:=Aside0.mk (hi);clear HK;clear HB;clear HI0;have HK:=n0_;have HB:=n1_;have HI0:=n2_;clear n0_ n1_ n2_;(try clear hb);(try clear hk);(try clear hi)) | ((with_reducible refine gate_callee (f:=37) rfl ?_);refine goesL_ (some 13) rfl rfl Try.func37 (by kernel_rfl) rfl #[.string (⟨#[81,81,81]⟩ : ByteArray), .int .i64 9999] rfl (by (try simp only [List.map_toArray,List.map_cons,List.map_nil]);rfl) ?_;(with_reducible refine (spec_l2Number.calls kj3 (⟨#[81,81,81]⟩ : ByteArray) 9999 t231 _ A12.out).mono ?_);rintro e w14 ⟨rfl,hb⟩;refine ⟨_,rfl, ?_⟩;have n0_:=Aside0.mk (IsS46.below (by exact HI0.out) hb);have n1_:=Aside0.mk (KeepBut.trans (by exact HK.out) (KeepBut.of_below hb g none) (.inl rfl));have n2_:=Aside0.mk (below_step (by exact HB.out) hb);clear HI0;clear HK;clear HB;have HI0:=n0_;have HK:=n1_;have HB:=n2_;clear n0_ n1_ n2_;(try clear hb)))
    go_ret
    exact ⟨by rfl,by exact HI0.out,by exact HB.out,by exact HK.out⟩
   ·replace c11:=Bool.eq_false_iff.mpr c11
    subst c11
    have H1 : (some (x3_3,t229,t230)) = some (r1,r2,r3):=by rw [if_neg (show ¬ (false = true) by decide)] at H;exact H
    clear H
    have H:=H1
    clear H1
    simp only [Option.some.injEq,Prod.mk.injEq] at H
    obtain ⟨rfl,rfl,rfl⟩ := H
    go_wp2_with (((with_reducible refine gate_callee (f:=20) rfl ?_);refine goesL_ (some 12) rfl rfl Try.func20 (by kernel_rfl) rfl #[.pointer (some ⟨g,0,none⟩), .int .i64 24] rfl (by (try simp only [List.map_toArray,List.map_cons,List.map_nil]);rfl) ?_;(with_reducible refine (spec_l1Cur_one.calls g s0_0 x1001_3 x1002_3 24 false t229 t230 w0 _ ?side1 ?side2 A10.out).mono ?_);(case side1 => exact HI0.out);(case side2 => exact HB.out);rintro e w15 ⟨rfl,hi,hb,hk⟩;refine ⟨_,rfl, ?_⟩;have n0_:=Aside0.mk (KeepBut.trans (by exact HK.out) hk (.inl rfl));have n1_:=Aside0.mk (hb);have n2_:=Aside0.mk (hi);clear HK;clear HB;clear HI0;have HK:=n0_;have HB:=n1_;have HI0:=n2_;clear n0_ n1_ n2_;(try clear hb);(try clear hk);(try clear hi)))
    go_ret
    exact ⟨by rfl,by exact HI0.out,by exact HB.out,by exact HK.out⟩

end Go.Proofs.Ytempmebpbbbkmaa.PFnWagons
