-- Written by a program of this session, over the kit's print (wip/xprint.py)
import Derived.Test.YthbibjfnmljpkaaPFnTrainLoadingx0
import Derived.Test.YthbibjfnmljpkaaPFnTrainLoadingx5
import Derived.Test.YthbibjfnmljpkaaPFnTrainLoadingx7
import Derived.Test.YthbibjfnmljpkaaPFnTrainLoadingx9
import Derived.Test.YthbibjfnmljpkaaPFnTrainLoadingx10
namespace Go.Proofs.Ythbibjfnmljpkaa.PFnTrainLoading
open Go.RowKit Go.Proofs.YthbibjfnmljpkaaW.PrintWords Go.Proofs.YthbibjfnmljpkaaW.PrintLast Go.Proofs.YthbibjfnmljpkaaW.PrintMore
attribute [local go_sem] max2_int min2_int max_two min_two max_three min_three max_four min_four   -- for this text's walks alone
set_option linter.unusedVariables false
set_option linter.unusedSimpArgs false

/-! ### impl_LeftBehindContainers: function 18 -/
theorem IsS73.grownX11 {w0 W : World} {g : Nat} {f0 : List Int} {f1 : Int} {f2 : Int} {W1 : World} {row : Option Nat} {W0 : World} (h0 : IsS73 w0 W0 g f0 f1 f2) (h : IsS73 w0 W g f0 f1 f2) (hw : W.grownBy W1 row) (hne : some g ≠ row) : IsS73 w0 W1 g f0 f1 f2:=IsS73.grown h hw hne
def impl_LeftBehindContainers.l0 : Nat → List (S64) → List ByteArray → List Int → Int → Int → Option (List ByteArray × Bool)
 | 0,_,_,_,_,_ => none
 | k + 1,x1,x8,x17,x18,x19 => if x19 < x18 then (if 0 ≤ x19 then (if x19 < (x17.length : Int) then (if (rd x17 x19) < 0 then (if x19 < (x1.length : Int) then (if x8.length < 8796093022208 then (impl_LeftBehindContainers.l0 k x1 (x8 ++ [(rd_T64 x1 x19).f0]) x17 x18 (wrap64 (x19 + 1))) else (none)) else (none)) else (impl_LeftBehindContainers.l0 k x1 x8 x17 x18 (wrap64 (x19 + 1)))) else (none)) else (none)) else (some (x8,true))
def impl_LeftBehindContainers.f (k : Nat) (l0 : List (S54)) (l1 : List (S64)) (l2 : List Int) : Option (List ByteArray × Bool):=(impl_IsValidLoading.f k l0 l1 l2).bind fun t494 => (if t494 = true then (impl_LeftBehindContainers.l0 k l1 (([] : List ByteArray)) l2 (l2.length : Int) 0) else (some (([] : List ByteArray),false)))
theorem impl_LeftBehindContainers.mono_l : ∀ k,(∀ y0 y1 y2 y3 y4,LeO (impl_LeftBehindContainers.l0 k y0 y1 y2 y3 y4) (impl_LeftBehindContainers.l0 (k + 1) y0 y1 y2 y3 y4))
 | 0 => fun _ _ _ _ _ r h => by simp [impl_LeftBehindContainers.l0] at h
 | k + 1 => by
  have ih0:=impl_LeftBehindContainers.mono_l k
  ·intro y0 y1 y2 y3 y4
   unfold impl_LeftBehindContainers.l0
   repeat' first
   | (with_reducible exact ih0 _ _ _ _ _)
   | (with_reducible exact impl_IsValidLoading.mono _ _ _ _)
   | (with_reducible exact LeO.refl _)
   | (with_reducible exact LeO.none _)
   | (with_reducible refine LeO.ite ?_ ?_)
   | (with_reducible refine LeO.bind ?_ (fun _ => ?_))
   | exact ih0 _ _ _ _ _
   | exact impl_IsValidLoading.mono _ _ _ _
   | exact LeO.none _
   | refine LeO.ite ?_ ?_
   | refine LeO.bind ?_ (fun _ => ?_)
theorem impl_LeftBehindContainers.mono : ∀ a0 a1 a2 k,LeO (impl_LeftBehindContainers.f k a0 a1 a2) (impl_LeftBehindContainers.f (k + 1) a0 a1 a2):=by
 intro a0 a1 a2 k;have ih0:=impl_LeftBehindContainers.mono_l k
 unfold impl_LeftBehindContainers.f
 repeat' first
   | (with_reducible exact ih0 _ _ _ _ _)
   | (with_reducible exact impl_IsValidLoading.mono _ _ _ _)
   | (with_reducible exact LeO.refl _)
   | (with_reducible exact LeO.none _)
   | (with_reducible refine LeO.ite ?_ ?_)
   | (with_reducible refine LeO.bind ?_ (fun _ => ?_))
   | exact ih0 _ _ _ _ _
   | exact impl_IsValidLoading.mono _ _ _ _
   | exact LeO.none _
   | refine LeO.ite ?_ ?_
   | refine LeO.bind ?_ (fun _ => ?_)
set_option maxHeartbeats 8000000 in
set_option maxRecDepth 100000 in
theorem impl_LeftBehindContainers.calls (k : Nat) (A0 : Option Addr) (c0 : Nat) (l0 : List (S54)) (A1 : Option Addr) (c1 : Nat) (l1 : List (S64)) (A2 : Option Addr) (c2 : Nat) (l2 : List Int) (r1 : List ByteArray) (r2 : Bool) (w : World) (hr0 : Kd.C k54 w A0 l0.length l0) (hc0 : l0.length ≤ c0) (hr1 : Kd.C k64 w A1 l1.length l1) (hc1 : l1.length ≤ c1) (hr2 : Kd.C (Kd.int .i64) w A2 l2.length l2) (hc2 : l2.length ≤ c2) (h : impl_LeftBehindContainers.f k l0 l1 l2 = some (r1,r2)) :
  Calls Try.prog 18 #[.slice A0 l0.length c0, .slice A1 l1.length c1, .slice A2 l2.length c2] w fun e w' => ∃ v0_ : Value,e = .returned (.tuple #[v0_, .bool r2]) ∧ Kd.R Kd.string 9 w' w.heap.size (fun _ => True) v0_ r1 ∧ Below w.heap.size w w':=by
 have HR0:=am_ hr0;have HC0:=am_ hc0;clear hr0 hc0;have HR1:=am_ hr1;have HC1:=am_ hc1;clear hr1 hc1;have HR2:=am_ hr2;have HC2:=am_ hc2;clear hr2 hc2;have HB:=am_ (Below.refl w.heap.size w);have H : ((impl_IsValidLoading.f k l0 l1 l2).bind fun t494 => (if t494 = true then (impl_LeftBehindContainers.l0 k l1 (([] : List ByteArray)) l2 (l2.length : Int) 0) else (some (([] : List ByteArray),false)))) = some (r1,r2):=h;clear h;replace H:=Option.bind_eq_some_iff.mp H;obtain ⟨t494,A40,H⟩ := H;replace H : (if t494 = true then (impl_LeftBehindContainers.l0 k l1 (([] : List ByteArray)) l2 (l2.length : Int) 0) else (some (([] : List ByteArray),false))) = some (r1,r2):=H;have A4:=am_ A40;clear A40
 by_cases c5 : t494 = true
 ·subst c5
  have H1 : (impl_LeftBehindContainers.l0 k l1 (([] : List ByteArray)) l2 (l2.length : Int) 0) = some (r1,r2):=by rw [if_pos rfl] at H;exact H
  clear H;have H:=H1;clear H1;obtain ⟨y495,hy495⟩ : ∃ y_ : List ByteArray,y_ = (([] : List ByteArray)):=⟨_,rfl⟩
  replace H : (impl_LeftBehindContainers.l0 k l1 y495 l2 (l2.length : Int) 0) = some (r1,r2):=by (rw [hy495];with_reducible exact H)
  have Ny495:=am_ hy495;clear hy495;have H':=am_ H;clear H
  go_enter Try.func18,Try.ntmps18
  go_wp2_with (first | ((with_reducible refine gate_callee (f:=19) rfl ?_);refine goesL_ (some 14) rfl rfl Try.func19 (by kernel_rfl) rfl #[.slice A0 l0.length c0, .slice A1 l1.length c1, .slice A2 l2.length c2] rfl (by (try simp only [List.map_toArray,List.map_cons,List.map_nil]);rfl) ?_;(with_reducible refine (impl_IsValidLoading.calls k _ _ l0 _ _ l1 _ _ l2 true _ ?side1 ?side2 ?side3 ?side4 ?side5 ?side6 A4.out).mono ?_);(case side1 => repeat (exact HR0.out));(case side2 => exact HC0.out);(case side3 => repeat (exact HR1.out));(case side4 => exact HC1.out);(case side5 => repeat (exact HR2.out));(case side6 => exact HC2.out);rintro e w6 ⟨rfl,hb⟩;refine ⟨_,rfl, ?_⟩;have n0_:=am_ (below_step (by exact HB.out) hb);clear HB;have HB:=n0_;clear n0_;(try clear hb)) | ((with_reducible refine gate_dst (N:=16) rfl ?_);refine Kd.R_lit Kd.string _ 9 ?hg (N:=16) ?hd (xs:=([] : List ByteArray)) (inner := []) (ok:=fun _ => True) (okp:=fun _ => True) ?hr ?hp (fun _ hk => hk) trivial (Below.refl _ _) (Nat.le_refl _) (by simp) ?_;(case hd => rfl);(case hg => rfl);(case hr => (go_simp;done));(case hp => exact (Reps.none _ _));intro v496 w7 ho8 hb hg_ hnew_;clear hg_ hnew_;(rw [← Ny495.out] at ho8);have n0_:=am_ (Kd.R_lower ho8 (below_size (by exact HB.out)));have n1_:=am_ (below_step (by exact HB.out) hb);clear HB;have HO497:=n0_;have HB:=n1_;clear n0_ n1_;clear hb ho8))
  (skip)
  go_loopg [8,19] k (fun kq v8 v19 w' => ∃ (x8_1 : List ByteArray) (x19_1 : Int),v19 = .int .i64 x19_1 ∧ Aside0 (impl_LeftBehindContainers.l0 kq l1 x8_1 l2 (l2.length : Int) x19_1 = some (r1,r2)) ∧ Aside0 (kq ≤ k) ∧ Aside0 (Kd.R Kd.string 9 w' w.heap.size (fun _ => True) v8 x8_1) ∧ Aside0 (Below w.heap.size w w'))
  case atStart => exact ⟨(y495),(0),(by rfl),H',⟨Nat.le_refl _⟩,⟨by exact HO497.out⟩,⟨by exact HB.out⟩⟩
  case round =>
   clear H';(try clear c1);(try clear c2);(try clear p2);(try clear c5);obtain ⟨x8_1,x19_1,rfl,HA,HK1,HO_8,HB⟩ := hrel
   cases gk with
   | zero => exact absurd HA.out (by simp [impl_LeftBehindContainers.l0])
   | succ k1 =>
    have H:=HA.out;clear HA;simp only [impl_LeftBehindContainers.l0] at H
    by_cases c9 : x19_1 < (l2.length : Int)
    ·rw [if_pos c9] at H;have c9b0 : decide (x19_1 < (l2.length : Int)) = true:=decide_eq_true c9;clear c9
     by_cases c10 : 0 ≤ x19_1
     ·rw [if_pos c10] at H;have c10b0 : decide (0 ≤ x19_1) = true:=decide_eq_true c10;clear c10
      by_cases c11 : x19_1 < (l2.length : Int)
      ·rw [if_pos c11] at H;have c11b0 : decide (x19_1 < (l2.length : Int)) = true:=decide_eq_true c11;clear c11
       by_cases c12 : (rd l2 x19_1) < 0
       ·rw [if_pos c12] at H;have c12b0 : decide ((rd l2 x19_1) < 0) = true:=decide_eq_true c12;clear c12
        by_cases c13 : x19_1 < (l1.length : Int)
        ·rw [if_pos c13] at H;have c13b0 : decide (x19_1 < (l1.length : Int)) = true:=decide_eq_true c13;clear c13
         by_cases c14 : x8_1.length < 8796093022208
         ·rw [if_pos c14] at H;have LMc14:=am_ c14;clear c14;obtain ⟨y500,hy500⟩ : ∃ y_ : List ByteArray,y_ = (x8_1 ++ [(rd_T64 l1 x19_1).f0]):=⟨_,rfl⟩
          replace H : (impl_LeftBehindContainers.l0 k1 l1 y500 l2 (l2.length : Int) (wrap64 (x19_1 + 1))) = some (r1,r2):=by (rw [hy500];with_reducible exact H)
          have Ny500:=am_ hy500;clear hy500;have H':=am_ H;clear H;have p498 : 0 ≤ (x19_1 : Int):=of_decide_eq_true (by (with_reducible assumption));have q498 : x19_1 < (l2.length : Int):=of_decide_eq_true (by (with_reducible assumption));obtain ⟨ad498,e498,hx498_0⟩ := Kd.at_int HR2.out x19_1 p498 q498;cases e498;replace hx498_0:=(HB.out.cell (World.block_lt_of_cell? w _ hx498_0)).trans hx498_0;replace p498:=eq_true p498;replace q498:=eq_true q498;have p499 : 0 ≤ (x19_1 : Int):=of_decide_eq_true (by (with_reducible assumption));have q499 : x19_1 < (l1.length : Int):=of_decide_eq_true (by (with_reducible assumption));obtain ⟨ad499,e499,hx499_0,hx499_1,hx499_2,hx499_3,hx499_4⟩ := at_T64 HR1.out x19_1 p499 q499;cases e499;replace hx499_0:=(HB.out.cell (World.block_lt_of_cell? w _ hx499_0)).trans hx499_0;replace hx499_1:=(HB.out.cell (World.block_lt_of_cell? w _ hx499_1)).trans hx499_1;replace hx499_2:=(HB.out.cell (World.block_lt_of_cell? w _ hx499_2)).trans hx499_2;replace hx499_3:=(HB.out.cell (World.block_lt_of_cell? w _ hx499_3)).trans hx499_3;replace hx499_4:=(HB.out.cell (World.block_lt_of_cell? w _ hx499_4)).trans hx499_4;replace p499:=eq_true p499;replace q499:=eq_true q499
          go_wp2_with (((with_reducible refine gate_builtin (b := .append) (xs:=#[.tmp 26, .tmp 32]) rfl ?_);at_builtin;refine Kd.R_append Kd.string (w0:=w) w.heap.size rfl (.tmp 26) (.tmp 32) 43 9 (.string ⟨#[]⟩) 16 rfl Try.underlying43 info9 rfl (by decide) (by omega) u8 x8_1 ((rd_T64 l1 x19_1).f0) [.string ((rd_T64 l1 x19_1).f0)] (fun _ => True) (fun _ => False) rfl rfl ?aP (fun _ hk => hk.elim) ?aF ?aO ?aB ?aS ?aL ?_;(case aP => exact rfl);(case aB => exact (by exact HB.out));(case aF => exact (fun _ _ => trivial));(case aO => exact (by exact HO_8.out));(case aS => exact (below_size (by exact HB.out)));(case aL => have:=LMc14.out;omega);intro v501 w15 ho hb hg hat;rw [← Ny500.out] at ho;have n0_:=am_ hb;have n1_:=am_ (ho);clear HB;clear HO_8;have HB:=n0_;have HO502:=n1_;clear n0_ n1_;clear ho hb hg hat))
          go_roundg k1
          case measure => have:=HK1.out;omega
          case rel => exact ⟨(y500),(wrap64 (x19_1 + 1)),(by rfl),H',⟨by have:=HK1.out;omega⟩,⟨by exact HO502.out⟩,⟨by exact HB.out⟩⟩
         ·rw [if_neg c14] at H
          exact absurd H (by simp)
        ·rw [if_neg c13] at H
         exact absurd H (by simp)
       ·rw [if_neg c12] at H;have c12b0 : decide ((rd l2 x19_1) < 0) = false:=decide_eq_false c12;clear c12;have H':=am_ H;clear H;have p498 : 0 ≤ (x19_1 : Int):=of_decide_eq_true (by (with_reducible assumption));have q498 : x19_1 < (l2.length : Int):=of_decide_eq_true (by (with_reducible assumption));obtain ⟨ad498,e498,hx498_0⟩ := Kd.at_int HR2.out x19_1 p498 q498;cases e498;replace hx498_0:=(HB.out.cell (World.block_lt_of_cell? w _ hx498_0)).trans hx498_0;replace p498:=eq_true p498;replace q498:=eq_true q498
        go_wp2
        go_roundg k1
        case measure => have:=HK1.out;omega
        case rel => exact ⟨(x8_1),(wrap64 (x19_1 + 1)),(by rfl),H',⟨by have:=HK1.out;omega⟩,⟨by exact HO_8.out⟩,⟨by exact HB.out⟩⟩
      ·rw [if_neg c11] at H
       exact absurd H (by simp)
     ·rw [if_neg c10] at H
      exact absurd H (by simp)
    ·rw [if_neg c9] at H;have c9b0 : decide (x19_1 < (l2.length : Int)) = false:=decide_eq_false c9;clear c9;simp only [Option.some.injEq,Prod.mk.injEq] at H;obtain ⟨rfl,rfl⟩ := H
     go_wp2
     go_ret2
     exact ⟨_,by rfl,by exact HO_8.out,by exact HB.out⟩
 ·replace c5:=Bool.eq_false_iff.mpr c5;subst c5
  have H1 : (some (([] : List ByteArray),false)) = some (r1,r2):=by rw [if_neg (show ¬ (false = true) by decide)] at H;exact H
  clear H;have H:=H1;clear H1;simp only [Option.some.injEq,Prod.mk.injEq] at H;obtain ⟨rfl,rfl⟩ := H
  go_enter Try.func18,Try.ntmps18
  go_wp2_with (((with_reducible refine gate_callee (f:=19) rfl ?_);refine goesL_ (some 14) rfl rfl Try.func19 (by kernel_rfl) rfl #[.slice A0 l0.length c0, .slice A1 l1.length c1, .slice A2 l2.length c2] rfl (by (try simp only [List.map_toArray,List.map_cons,List.map_nil]);rfl) ?_;(with_reducible refine (impl_IsValidLoading.calls k _ _ l0 _ _ l1 _ _ l2 false _ ?side1 ?side2 ?side3 ?side4 ?side5 ?side6 A4.out).mono ?_);(case side1 => repeat (exact HR0.out));(case side2 => exact HC0.out);(case side3 => repeat (exact HR1.out));(case side4 => exact HC1.out);(case side5 => repeat (exact HR2.out));(case side6 => exact HC2.out);rintro e w16 ⟨rfl,hb⟩;refine ⟨_,rfl, ?_⟩;have n0_:=am_ (below_step (by exact HB.out) hb);clear HB;have HB:=n0_;clear n0_;(try clear hb)))
  go_ret2
  exact ⟨_,by rfl,by exact Kd.R_nil _ _ _ _ _,by exact HB.out⟩

/-! ### spec_l1Cur_loading: function 79 -/
mutual
def spec_l1Cur_loading.j1 : Nat → List (S54) → List Int → List Int → Int → Int → Option (List Int × Int × Int)
 | 0,_,_,_,_,_ => none
 | k + 1,x1,x7,x1000,x1001,x1002 => (spec_l1Cur_pick.f x1000 x1001 x1002 24).bind fun bt513 => (if bt513.1 = 0 then (if x7.length < 17592186044416 then (some ((x7 ++ [0]),bt513.2.1,bt513.2.2)) else (none)) else (if bt513.1 = 1 then (if (x7.length : Int) > 0 then ((spec_l1Cur_pick.f x1000 bt513.2.1 bt513.2.2 (x7.length : Int)).bind fun bt519 => ((spec_l1Cur_among.f x1000 bt519.2.1 bt519.2.2 (([(-2),(x1.length : Int),0] : List Int))).bind fun bt525 => (if 0 ≤ bt519.1 then (if bt519.1 < (x7.length : Int) then (some ((x7.set (bt519.1 : Int).toNat bt525.1),bt525.2.1,bt525.2.2)) else (none)) else (none)))) else (some (x7,bt513.2.1,bt513.2.2))) else (some (x7,bt513.2.1,bt513.2.2))))
def spec_l1Cur_loading.l0 : Nat → List (S54) → List Int → Int → List Int → Int → Int → Option (List Int × Int × Int)
 | 0,_,_,_,_,_,_ => none
 | k + 1,x1,x7,x8,x1000,x1001,x1002 => if x8 > 0 then (if (x7.length : Int) > 0 then ((spec_l1Cur_pick.f x1000 x1001 x1002 (x7.length : Int)).bind fun bt509 => (if 0 ≤ bt509.1 then (if bt509.1 < (x7.length : Int) then (spec_l1Cur_loading.l0 k x1 (x7.set (bt509.1 : Int).toNat (-1)) (wrap64 (x8 - 1)) x1000 bt509.2.1 bt509.2.2) else (none)) else (none))) else (spec_l1Cur_loading.j1 k x1 x7 x1000 x1001 x1002)) else (spec_l1Cur_loading.j1 k x1 x7 x1000 x1001 x1002)
end
def spec_l1Cur_loading.f (k : Nat) (s0_0 : List Int) (s0_1 : Int) (s0_2 : Int) (l1 : List (S54)) (l2 : List (S64)) : Option (List Int × Int × Int):=(spec_l19Order.f k l1 l2).bind fun t503 => ((spec_l1Cur_pick.f s0_0 s0_1 s0_2 3).bind fun bt506 => (spec_l1Cur_loading.l0 k l1 t503 bt506.1 s0_0 bt506.2.1 bt506.2.2))
theorem spec_l1Cur_loading.mono_l : ∀ k,(∀ y0 y1 y2 y3 y4,LeO (spec_l1Cur_loading.j1 k y0 y1 y2 y3 y4) (spec_l1Cur_loading.j1 (k + 1) y0 y1 y2 y3 y4)) ∧ (∀ y0 y1 y2 y3 y4 y5,LeO (spec_l1Cur_loading.l0 k y0 y1 y2 y3 y4 y5) (spec_l1Cur_loading.l0 (k + 1) y0 y1 y2 y3 y4 y5))
 | 0 => ⟨fun _ _ _ _ _ r h => by simp [spec_l1Cur_loading.j1] at h,fun _ _ _ _ _ _ r h => by simp [spec_l1Cur_loading.l0] at h⟩
 | k + 1 => by
  obtain ⟨ih0,ih1⟩ := spec_l1Cur_loading.mono_l k;refine ⟨?_, ?_⟩
  ·intro y0 y1 y2 y3 y4
   unfold spec_l1Cur_loading.j1
   repeat' first
   | (with_reducible exact ih0 _ _ _ _ _)
   | (with_reducible exact ih1 _ _ _ _ _ _)
   | (with_reducible exact spec_l19Order.mono _ _ _)
   | (with_reducible exact LeO.refl _)
   | (with_reducible exact LeO.none _)
   | (with_reducible refine LeO.ite ?_ ?_)
   | (with_reducible refine LeO.bind ?_ (fun _ => ?_))
   | exact ih0 _ _ _ _ _
   | exact ih1 _ _ _ _ _ _
   | exact spec_l19Order.mono _ _ _
   | exact LeO.none _
   | refine LeO.ite ?_ ?_
   | refine LeO.bind ?_ (fun _ => ?_)
  ·intro y0 y1 y2 y3 y4 y5
   unfold spec_l1Cur_loading.l0
   repeat' first
   | (with_reducible exact ih0 _ _ _ _ _)
   | (with_reducible exact ih1 _ _ _ _ _ _)
   | (with_reducible exact spec_l19Order.mono _ _ _)
   | (with_reducible exact LeO.refl _)
   | (with_reducible exact LeO.none _)
   | (with_reducible refine LeO.ite ?_ ?_)
   | (with_reducible refine LeO.bind ?_ (fun _ => ?_))
   | exact ih0 _ _ _ _ _
   | exact ih1 _ _ _ _ _ _
   | exact spec_l19Order.mono _ _ _
   | exact LeO.none _
   | refine LeO.ite ?_ ?_
   | refine LeO.bind ?_ (fun _ => ?_)
theorem spec_l1Cur_loading.mono : ∀ a0 a1 a2 a3 a4 k,LeO (spec_l1Cur_loading.f k a0 a1 a2 a3 a4) (spec_l1Cur_loading.f (k + 1) a0 a1 a2 a3 a4):=by
 intro a0 a1 a2 a3 a4 k;obtain ⟨ih0,ih1⟩ := spec_l1Cur_loading.mono_l k
 unfold spec_l1Cur_loading.f
 repeat' first
   | (with_reducible exact ih0 _ _ _ _ _)
   | (with_reducible exact ih1 _ _ _ _ _ _)
   | (with_reducible exact spec_l19Order.mono _ _ _)
   | (with_reducible exact LeO.refl _)
   | (with_reducible exact LeO.none _)
   | (with_reducible refine LeO.ite ?_ ?_)
   | (with_reducible refine LeO.bind ?_ (fun _ => ?_))
   | exact ih0 _ _ _ _ _
   | exact ih1 _ _ _ _ _ _
   | exact spec_l19Order.mono _ _ _
   | exact LeO.none _
   | refine LeO.ite ?_ ?_
   | refine LeO.bind ?_ (fun _ => ?_)
set_option maxHeartbeats 8000000 in
set_option maxRecDepth 100000 in
theorem spec_l1Cur_loading.calls (k : Nat) (g : Nat) (s0_0 : List Int) (s0_1 : Int) (s0_2 : Int) (A1 : Option Addr) (c1 : Nat) (l1 : List (S54)) (A2 : Option Addr) (c2 : Nat) (l2 : List (S64)) (r1 : List Int) (r2 : Int) (r3 : Int) (w0 w : World) (hI : IsS73 w0 w g s0_0 s0_1 s0_2) (hB : Below w0.heap.size w0 w) (hr1 : ∀ W_,KeepBut w W_ g none → Kd.C k54 W_ A1 l1.length l1) (hc1 : l1.length ≤ c1) (hr2 : ∀ W_,KeepBut w W_ g none → Kd.C k64 W_ A2 l2.length l2) (hc2 : l2.length ≤ c2) (h : spec_l1Cur_loading.f k s0_0 s0_1 s0_2 l1 l2 = some (r1,r2,r3)) :
  Calls Try.prog 79 #[.pointer (some ⟨g,0,none⟩), .slice A1 l1.length c1, .slice A2 l2.length c2] w fun e w' => ∃ v0_ : Value,e = .returned (v0_) ∧ Kd.R (Kd.int .i64) 3 w' w.heap.size (fun _ => True) v0_ r1 ∧ IsS73 w0 w' g s0_0 r2 r3 ∧ Below w0.heap.size w0 w' ∧ KeepBut w w' g none:=by
 have HR1:=am_ hr1;have HC1:=am_ hc1;clear hr1 hc1;have HR2:=am_ hr2;have HC2:=am_ hc2;clear hr2 hc2;have HI0:=am_ hI;have HK:=am_ (KeepBut.refl w g none);have HL:=am_ hB.size;clear hI;have HW0:=am_ hB.size;have HB:=am_ hB;clear hB;have H : ((spec_l19Order.f k l1 l2).bind fun t503 => ((spec_l1Cur_pick.f s0_0 s0_1 s0_2 3).bind fun bt506 => (spec_l1Cur_loading.l0 k l1 t503 bt506.1 s0_0 bt506.2.1 bt506.2.2))) = some (r1,r2,r3):=h;clear h;replace H:=Option.bind_eq_some_iff.mp H;obtain ⟨t503,A40,H⟩ := H;replace H : ((spec_l1Cur_pick.f s0_0 s0_1 s0_2 3).bind fun bt506 => (spec_l1Cur_loading.l0 k l1 t503 bt506.1 s0_0 bt506.2.1 bt506.2.2)) = some (r1,r2,r3):=H;have A4:=am_ A40;clear A40;replace H:=Option.bind_eq_some_iff.mp H;obtain ⟨⟨t506,t507,t508⟩,A50,H⟩ := H;replace H : (spec_l1Cur_loading.l0 k l1 t503 t506 s0_0 t507 t508) = some (r1,r2,r3):=H;have A5:=am_ A50;clear A50;have HC6:=am_ H;clear H
 go_enter Try.func79,Try.ntmps79
 go_upto_block 0 with (first | ((with_reducible refine gate_callee (f:=47) rfl ?_);refine goesL_ (some 11) rfl rfl Try.func47 (by kernel_rfl) rfl #[.slice A1 l1.length c1, .slice A2 l2.length c2] rfl (by (try simp only [List.map_toArray,List.map_cons,List.map_nil]);rfl) ?_;(with_reducible refine (spec_l19Order.calls k _ _ l1 _ _ l2 t503 _ ?side1 ?side2 ?side3 ?side4 A4.out).mono ?_);(case side1 => exact Kd.C_foot_now HR1.out (by exact HK.out));(case side2 => exact HC1.out);(case side3 => exact Kd.C_foot_now HR2.out (by exact HK.out));(case side4 => exact HC2.out);rintro e w7 ⟨v504,rfl,ho0,hb⟩;refine ⟨_,rfl, ?_⟩;have n0_:=am_ (Kd.R_lower ho0 (keep_size (w:=w) (g:=g) (row:=none) (by exact HK.out)));have n1_:=am_ (IsS73.below (by exact HI0.out) hb);have n2_:=am_ (KeepBut.trans (by exact HK.out) (KeepBut.of_below hb g none) (.inl rfl));have n3_:=am_ (below_step (by exact HB.out) hb);clear HI0;clear HK;clear HB;have HO505:=n0_;have HI0:=n1_;have HK:=n2_;have HB:=n3_;clear n0_ n1_ n2_ n3_;(try clear hb);(try clear ho0)) | ((with_reducible refine gate_callee (f:=43) rfl ?_);refine goesL_ (some 13) rfl rfl Try.func43 (by kernel_rfl) rfl #[.pointer (some ⟨g,0,none⟩), .int .i64 3] rfl (by (try simp only [List.map_toArray,List.map_cons,List.map_nil]);rfl) ?_;(with_reducible refine (spec_l1Cur_pick.calls g s0_0 s0_1 s0_2 3 t506 t507 t508 w0 _ ?side1 ?side2 A5.out).mono ?_);(case side1 => exact HI0.out);(case side2 => exact HB.out);rintro e w8 ⟨rfl,hi,hb,hk⟩;refine ⟨_,rfl, ?_⟩;have n0_:=am_ (Kd.R_mono (Kd.R_keep (IsS73.apart (show IsS73 w0 _ g s0_0 s0_1 s0_2 from by exact HI0.out) (by exact HO505.out) (by decide)) hk (fun _ h => h.2)) (fun _ h => h.1));have n1_:=am_ (KeepBut.trans (by exact HK.out) hk (.inl rfl));have n2_:=am_ hb;have n3_:=am_ hi;clear HO505;clear HK;clear HB;clear HI0;have HO505:=n0_;have HK:=n1_;have HB:=n2_;have HI0:=n3_;clear n0_ n1_ n2_ n3_;(try clear hb);(try clear hk);(try clear hi)))
 (skip)
 go_cut [] (fun wc => ∃ (kq : Nat) (x7_5 : List Int) (x1001_5 : Int) (x1002_5 : Int),Aside0 (spec_l1Cur_loading.j1 kq l1 x7_5 s0_0 x1001_5 x1002_5 = some (r1,r2,r3)) ∧ Aside0 (kq ≤ k) ∧ Aside0 (Kd.R (Kd.int .i64) 3 wc w.heap.size (fun _ => True) v504 x7_5) ∧ Aside0 (IsS73 w0 wc g s0_0 x1001_5 x1002_5) ∧ Aside0 (KeepBut w wc g none) ∧ Aside0 (Below w0.heap.size w0 wc))
 case first =>
  have H:=HC6.out;clear HC6;have H':=am_ H;clear H
  go_wp2
  (skip)
  go_loopg [8] k (fun kq v8 w' => ∃ (x7_1 : List Int) (x8_1 : Int) (x1001_1 : Int) (x1002_1 : Int),v8 = .int .i64 x8_1 ∧ Aside0 (spec_l1Cur_loading.l0 kq l1 x7_1 x8_1 s0_0 x1001_1 x1002_1 = some (r1,r2,r3)) ∧ Aside0 (kq ≤ k) ∧ Aside0 (Kd.R (Kd.int .i64) 3 w' w.heap.size (fun _ => True) v504 x7_1) ∧ Aside0 (IsS73 w0 w' g s0_0 x1001_1 x1002_1) ∧ Aside0 (KeepBut w w' g none) ∧ Aside0 (Below w0.heap.size w0 w'))
  case atStart => exact ⟨(t503),(t506),(t507),(t508),(by rfl),H',⟨Nat.le_refl _⟩,⟨by exact HO505.out⟩,⟨by exact HI0.out⟩,⟨by exact HK.out⟩,⟨by exact HB.out⟩⟩
  case round =>
   clear H';(try clear c1);(try clear c2);(try clear p2);(try clear c4);(try clear c7);obtain ⟨x7_1,x8_1,x1001_1,x1002_1,rfl,HA,HK1,HO_7,HI0,HK,HB⟩ := hrel
   cases gk with
   | zero => exact absurd HA.out (by simp [spec_l1Cur_loading.l0])
   | succ k1 =>
    have H:=HA.out;clear HA;simp only [spec_l1Cur_loading.l0] at H
    by_cases c9 : x8_1 > 0
    ·rw [if_pos c9] at H;have c9b0 : decide (0 < x8_1) = true:=decide_eq_true c9;clear c9
     (skip)
     by_cases c10 : (x7_1.length : Int) > 0
     ·rw [if_pos c10] at H;have c10b0 : decide (0 < (x7_1.length : Int)) = true:=decide_eq_true c10;have c10b1 : decide (0 < x7_1.length) = true:=decide_eq_true (by omega);clear c10;replace H:=Option.bind_eq_some_iff.mp H;obtain ⟨⟨t509,t510,t511⟩,A110,H⟩ := H;replace H : (if 0 ≤ t509 then (if t509 < (x7_1.length : Int) then (spec_l1Cur_loading.l0 k1 l1 (x7_1.set (t509 : Int).toNat (-1)) (wrap64 (x8_1 - 1)) s0_0 t510 t511) else (none)) else (none)) = some (r1,r2,r3):=H;have A11:=am_ A110;clear A110
      by_cases c12 : 0 ≤ t509
      ·rw [if_pos c12] at H;have c12b0 : decide (0 ≤ t509) = true:=decide_eq_true c12;clear c12
       by_cases c13 : t509 < (x7_1.length : Int)
       ·rw [if_pos c13] at H;have c13b0 : decide (t509 < (x7_1.length : Int)) = true:=decide_eq_true c13;clear c13;obtain ⟨y512,hy512⟩ : ∃ y_ : List Int,y_ = (x7_1.set (t509 : Int).toNat (-1)):=⟨_,rfl⟩
        replace H : (spec_l1Cur_loading.l0 k1 l1 y512 (wrap64 (x8_1 - 1)) s0_0 t510 t511) = some (r1,r2,r3):=by (rw [hy512];with_reducible exact H)
        have Ny512:=am_ hy512;clear hy512;have H':=am_ H;clear H;obtain ⟨Ao15,co15,eo15⟩ := Kd.R_slice HO_7.out;subst eo15
        go_wp2_with (first | ((with_reducible refine gate_callee (f:=43) rfl ?_);refine goesL_ (some 27) rfl rfl Try.func43 (by kernel_rfl) rfl #[.pointer (some ⟨g,0,none⟩), .int .i64 (x7_1.length : Int)] rfl (by (try simp only [List.map_toArray,List.map_cons,List.map_nil]);rfl) ?_;(with_reducible refine (spec_l1Cur_pick.calls g s0_0 x1001_1 x1002_1 (x7_1.length : Int) t509 t510 t511 w0 _ ?side1 ?side2 A11.out).mono ?_);(case side1 => exact HI0.out);(case side2 => exact HB.out);rintro e w16 ⟨rfl,hi,hb,hk⟩;refine ⟨_,rfl, ?_⟩;have n0_:=am_ (Kd.R_mono (Kd.R_keep (IsS73.apart (show IsS73 w0 _ g s0_0 x1001_1 x1002_1 from by exact HI0.out) (by exact HO_7.out) (by decide)) hk (fun _ h => h.2)) (fun _ h => h.1));have n1_:=am_ (KeepBut.trans (by exact HK.out) hk (.inl rfl));have n2_:=am_ hb;have n3_:=am_ hi;clear HO_7;clear HK;clear HB;clear HI0;have HO_7:=n0_;have HK:=n1_;have HB:=n2_;have HI0:=n3_;clear n0_ n1_ n2_ n3_;(try clear hb);(try clear hk);(try clear hi);have p14 : 0 ≤ (t509 : Int):=of_decide_eq_true (by (with_reducible assumption));have q14 : (t509 : Int) < ((x7_1.length : Int) : Int):=of_decide_eq_true (by (with_reducible assumption));obtain ⟨go14,co14,eo14,gb14,gl14,cl14,HG14⟩ := Kd.R_form HO_7.out (by omega);(cases eo14);have GB14:=am_ gb14;have GG14:=am_ HG14;clear gb14 gl14 HG14;obtain ⟨hx14_0,hf14_0⟩ := Kd.R_celln 0 HO_7.out (t509 : Int) p14 q14;replace p14:=eq_true p14;replace q14:=eq_true q14;obtain ⟨hy17_,hz17_⟩ := Kd.R_celln 0 HO_7.out (t509 : Int) (of_decide_eq_true (by (with_reducible assumption))) (of_decide_eq_true (by (with_reducible assumption)));have HP17:=Kd.R_putg HO_7.out (t509 : Int) (-1)) | ((with_reducible refine gate_store (t:=3) (p:=28) rfl ?_);refine store_event (t:=3) (p:=28) (v:=?vo_w18) (w1:=(w16.setCell ⟨go14,(t509 : Int).toNat,none⟩ (.int .i64 (-1)))) ?hg ?ho ?hn ?hr ?_;(case ho => rfl);(case hg => rfl);(case hn => rfl);(case hr => (go_simp;done));intro w18 hw;have hg : w16.grownBy w18 (some go14):=(by rw [hw];exact HP17.2);have hp_ : Kd.R (Kd.int .i64) 3 w18 w.heap.size (fun _ => True) (.slice (some ⟨go14,0,none⟩) x7_1.length co15) y512:=(by rw [hw,Ny512.out];exact HP17.1);clear HP17;have n0_:=am_ (hp_);have n1_:=am_ (IsS73.grownX11 HI0.out (by exact HI0.out) hg (IsS73.own_ne HI0.out HO_7.out (by decide)));have n2_:=am_ ((by rw [hw];exact below_set (HB.out) (Nat.le_trans HL.out GB14.out) : Below w0.heap.size w0 w18));have n3_:=am_ (KeepBut.trans (by exact HK.out) (KeepBut.of_grown hg g) (Kd.R_base2 HO_7.out));clear HO_7;clear HI0;clear HB;clear HK;have HO_7:=n0_;have HI0:=n1_;have HB:=n2_;have HK:=n3_;clear n0_ n1_ n2_ n3_;clear hg hw hp_))
        go_roundg k1
        case measure => have:=HK1.out;omega
        case rel => exact ⟨(y512),(wrap64 (x8_1 - 1)),(t510),(t511),(by rfl),H',⟨by have:=HK1.out;omega⟩,⟨by exact HO_7.out⟩,⟨by exact HI0.out⟩,⟨by exact HK.out⟩,⟨by exact HB.out⟩⟩
       ·rw [if_neg c13] at H
        exact absurd H (by simp)
      ·rw [if_neg c12] at H
       exact absurd H (by simp)
     ·rw [if_neg c10] at H;have c10b0 : decide (0 < (x7_1.length : Int)) = false:=decide_eq_false c10;have c10b1 : decide (0 < x7_1.length) = false:=decide_eq_false (by omega);clear c10;have H':=am_ H;clear H;obtain ⟨Ao19,co19,eo19⟩ := Kd.R_slice HO_7.out;subst eo19
      go_wp2
      go_meet
      case rel => exact ⟨_,(x7_1),(x1001_1),(x1002_1),H',⟨by have:=HK1.out;omega⟩,⟨by exact HO_7.out⟩,⟨by exact HI0.out⟩,⟨by exact HK.out⟩,⟨by exact HB.out⟩⟩
    ·rw [if_neg c9] at H;have c9b0 : decide (0 < x8_1) = false:=decide_eq_false c9;clear c9
     (skip)
     have H':=am_ H;clear H
     go_wp2
     go_meet
     case rel => exact ⟨_,(x7_1),(x1001_1),(x1002_1),H',⟨by have:=HK1.out;omega⟩,⟨by exact HO_7.out⟩,⟨by exact HI0.out⟩,⟨by exact HK.out⟩,⟨by exact HB.out⟩⟩
 case rest =>
  clear HC6;(try clear c1);(try clear p1);(try clear q1);(try clear hx1);(try clear c2);(try clear p2);(try clear c4);(try clear p6);(try clear c7);(try clear c9);(try clear c9b0);(try clear c10);(try clear c10b0);(try clear c10b1);(try clear c12);(try clear c12b0);(try clear c13);(try clear c13b0);(try clear p14);(try clear q14);(try clear hx14);(try clear hf14);(try clear hx14_0);(try clear p14);(try clear p2);(try clear q14);obtain ⟨kq,x7_5,x1001_5,x1002_5,HA,HJ5,HO_7,HI0,HK,HB⟩ := hcut
  cases kq with
  | zero => exact absurd HA.out (by simp [spec_l1Cur_loading.j1])
  | succ kj5 =>
   have H:=HA.out;clear HA;simp only [spec_l1Cur_loading.j1] at H;replace H:=Option.bind_eq_some_iff.mp H;obtain ⟨⟨t513,t514,t515⟩,A200,H⟩ := H;replace H : (if t513 = 0 then (if x7_5.length < 17592186044416 then (some ((x7_5 ++ [0]),t514,t515)) else (none)) else (if t513 = 1 then (if (x7_5.length : Int) > 0 then ((spec_l1Cur_pick.f s0_0 t514 t515 (x7_5.length : Int)).bind fun bt519 => ((spec_l1Cur_among.f s0_0 bt519.2.1 bt519.2.2 (([(-2),(l1.length : Int),0] : List Int))).bind fun bt525 => (if 0 ≤ bt519.1 then (if bt519.1 < (x7_5.length : Int) then (some ((x7_5.set (bt519.1 : Int).toNat bt525.1),bt525.2.1,bt525.2.2)) else (none)) else (none)))) else (some (x7_5,t514,t515))) else (some (x7_5,t514,t515)))) = some (r1,r2,r3):=H;have A20:=am_ A200;clear A200
   by_cases c21 : t513 = 0
   ·rw [if_pos c21] at H;have c21b0 : (t513 == 0) = true:=beq_iff_eq.mpr c21;have c21b1 : (t513 != 0) = false:=bne_eq_false_iff_eq.mpr c21;clear c21
    by_cases c22 : x7_5.length < 17592186044416
    ·rw [if_pos c22] at H;have LMc22:=am_ c22;clear c22;obtain ⟨y516,hy516⟩ : ∃ y_ : List Int,y_ = (x7_5 ++ [0]):=⟨_,rfl⟩
     replace H : (some (y516,t514,t515)) = some (r1,r2,r3):=by (rw [hy516];with_reducible exact H)
     have Ny516:=am_ hy516;clear hy516;simp only [Option.some.injEq,Prod.mk.injEq] at H;obtain ⟨rfl,rfl,rfl⟩ := H
     go_wp2_with (first | ((with_reducible refine gate_callee (f:=43) rfl ?_);refine goesL_ (some 30) rfl rfl Try.func43 (by kernel_rfl) rfl #[.pointer (some ⟨g,0,none⟩), .int .i64 24] rfl (by (try simp only [List.map_toArray,List.map_cons,List.map_nil]);rfl) ?_;(with_reducible refine (spec_l1Cur_pick.calls g s0_0 x1001_5 x1002_5 24 t513 t514 t515 w0 _ ?side1 ?side2 A20.out).mono ?_);(case side1 => exact HI0.out);(case side2 => exact HB.out);rintro e w23 ⟨rfl,hi,hb,hk⟩;refine ⟨_,rfl, ?_⟩;have n0_:=am_ (Kd.R_mono (Kd.R_keep (IsS73.apart (show IsS73 w0 _ g s0_0 x1001_5 x1002_5 from by exact HI0.out) (by exact HO_7.out) (by decide)) hk (fun _ h => h.2)) (fun _ h => h.1));have n1_:=am_ (KeepBut.trans (by exact HK.out) hk (.inl rfl));have n2_:=am_ hb;have n3_:=am_ hi;clear HO_7;clear HK;clear HB;clear HI0;have HO_7:=n0_;have HK:=n1_;have HB:=n2_;have HI0:=n3_;clear n0_ n1_ n2_ n3_;(try clear hb);(try clear hk);(try clear hi)) | ((with_reducible refine gate_builtin (b := .append) (xs:=#[.tmp 33, .tmp 34]) rfl ?_);(try (refine gate_guard (by rfl) ?_;dsimp only));at_builtin;refine Kd.R_append (Kd.int .i64) w.heap.size rfl (.tmp 33) (.tmp 34) 39 3 (.int .i64 0) 8 rfl Try.underlying39 info3 rfl (by decide) (by omega) v504 x7_5 0 [.int .i64 0] (fun _ => True) (fun _ => False) rfl rfl ?aP (fun _ hk => hk.elim) ?aF ?aO (Below.refl _ _) ?aS ?aL ?_;(case aP => exact rfl);(case aF => exact (fun _ _ => trivial));(case aO => exact (by exact HO_7.out));(case aS => exact (keep_size (w:=w) (g:=g) (row:=none) (by exact HK.out)));(case aL => have:=LMc22.out;omega);intro v517 w24 ho hb hg hat;rw [← Ny516.out] at ho;have n0_:=am_ (IsS73.grownX11 HI0.out (by exact HI0.out) hg (IsS73.own_ne HI0.out HO_7.out (by decide)));have n1_:=am_ (below_weaken (by exact HB.out) HL.out hb);have n2_:=am_ (KeepBut.trans (by exact HK.out) (KeepBut.of_grown hg g) (Kd.R_base2 HO_7.out));have n3_:=am_ (ho);clear HI0;clear HB;clear HK;clear HO_7;have HI0:=n0_;have HB:=n1_;have HK:=n2_;have HO518:=n3_;clear n0_ n1_ n2_ n3_;clear ho hb hg hat))
     go_ret
     exact ⟨_,by rfl,by exact HO518.out,by exact HI0.out,by exact HB.out,by exact HK.out⟩
    ·rw [if_neg c22] at H
     exact absurd H (by simp)
   ·rw [if_neg c21] at H;have c21b0 : (t513 == 0) = false:=beq_eq_false_iff_ne.mpr c21;have c21b1 : (t513 != 0) = true:=bne_iff_ne.mpr c21
    by_cases c25 : t513 = 1
    ·rw [if_pos c25] at H;have c25b0 : (t513 == 1) = true:=beq_iff_eq.mpr c25;have c25b1 : (t513 != 1) = false:=bne_eq_false_iff_eq.mpr c25;clear c25
     by_cases c26 : (x7_5.length : Int) > 0
     ·rw [if_pos c26] at H;have c26b0 : decide (0 < (x7_5.length : Int)) = true:=decide_eq_true c26;have c26b1 : decide (0 < x7_5.length) = true:=decide_eq_true (by omega);clear c26;replace H:=Option.bind_eq_some_iff.mp H;obtain ⟨⟨t519,t520,t521⟩,A270,H⟩ := H;replace H : ((spec_l1Cur_among.f s0_0 t520 t521 (([(-2),(l1.length : Int),0] : List Int))).bind fun bt525 => (if 0 ≤ t519 then (if t519 < (x7_5.length : Int) then (some ((x7_5.set (t519 : Int).toNat bt525.1),bt525.2.1,bt525.2.2)) else (none)) else (none))) = some (r1,r2,r3):=H;have A27:=am_ A270;clear A270;obtain ⟨y522,hy522⟩ : ∃ y_ : List Int,y_ = (([(-2),(l1.length : Int),0] : List Int)):=⟨_,rfl⟩
      replace H : ((spec_l1Cur_among.f s0_0 t520 t521 y522).bind fun bt525 => (if 0 ≤ t519 then (if t519 < (x7_5.length : Int) then (some ((x7_5.set (t519 : Int).toNat bt525.1),bt525.2.1,bt525.2.2)) else (none)) else (none))) = some (r1,r2,r3):=by (rw [hy522];with_reducible exact H)
      have Ny522:=am_ hy522;clear hy522;replace H:=Option.bind_eq_some_iff.mp H;obtain ⟨⟨t525,t526,t527⟩,A280,H⟩ := H;replace H : (if 0 ≤ t519 then (if t519 < (x7_5.length : Int) then (some ((x7_5.set (t519 : Int).toNat t525),t526,t527)) else (none)) else (none)) = some (r1,r2,r3):=H;have A28:=am_ A280;clear A280
      by_cases c29 : 0 ≤ t519
      ·rw [if_pos c29] at H;have c29b0 : decide (0 ≤ t519) = true:=decide_eq_true c29;clear c29
       by_cases c30 : t519 < (x7_5.length : Int)
       ·rw [if_pos c30] at H;have c30b0 : decide (t519 < (x7_5.length : Int)) = true:=decide_eq_true c30;clear c30;obtain ⟨y528,hy528⟩ : ∃ y_ : List Int,y_ = (x7_5.set (t519 : Int).toNat t525):=⟨_,rfl⟩
        replace H : (some (y528,t526,t527)) = some (r1,r2,r3):=by (rw [hy528];with_reducible exact H)
        have Ny528:=am_ hy528;clear hy528;simp only [Option.some.injEq,Prod.mk.injEq] at H;obtain ⟨rfl,rfl,rfl⟩ := H
        go_wp2_with (first | ((with_reducible refine gate_callee (f:=43) rfl ?_);refine goesL_ (some 30) rfl rfl Try.func43 (by kernel_rfl) rfl #[.pointer (some ⟨g,0,none⟩), .int .i64 24] rfl (by (try simp only [List.map_toArray,List.map_cons,List.map_nil]);rfl) ?_;(with_reducible refine (spec_l1Cur_pick.calls g s0_0 x1001_5 x1002_5 24 t513 t514 t515 w0 _ ?side1 ?side2 A20.out).mono ?_);(case side1 => exact HI0.out);(case side2 => exact HB.out);rintro e w32 ⟨rfl,hi,hb,hk⟩;refine ⟨_,rfl, ?_⟩;have n0_:=am_ (Kd.R_mono (Kd.R_keep (IsS73.apart (show IsS73 w0 _ g s0_0 x1001_5 x1002_5 from by exact HI0.out) (by exact HO_7.out) (by decide)) hk (fun _ h => h.2)) (fun _ h => h.1));have n1_:=am_ (KeepBut.trans (by exact HK.out) hk (.inl rfl));have n2_:=am_ hb;have n3_:=am_ hi;clear HO_7;clear HK;clear HB;clear HI0;have HO_7:=n0_;have HK:=n1_;have HB:=n2_;have HI0:=n3_;clear n0_ n1_ n2_ n3_;(try clear hb);(try clear hk);(try clear hi);obtain ⟨Ao33,co33,eo33⟩ := Kd.R_slice HO_7.out;subst eo33) | ((with_reducible refine gate_callee (f:=43) rfl ?_);refine goesL_ (some 45) rfl rfl Try.func43 (by kernel_rfl) rfl #[.pointer (some ⟨g,0,none⟩), .int .i64 (x7_5.length : Int)] rfl (by (try simp only [List.map_toArray,List.map_cons,List.map_nil]);rfl) ?_;(with_reducible refine (spec_l1Cur_pick.calls g s0_0 t514 t515 (x7_5.length : Int) t519 t520 t521 w0 _ ?side1 ?side2 A27.out).mono ?_);(case side1 => exact HI0.out);(case side2 => exact HB.out);rintro e w34 ⟨rfl,hi,hb,hk⟩;refine ⟨_,rfl, ?_⟩;have n0_:=am_ (Kd.R_mono (Kd.R_keep (IsS73.apart (show IsS73 w0 _ g s0_0 t514 t515 from by exact HI0.out) (by exact HO_7.out) (by decide)) hk (fun _ h => h.2)) (fun _ h => h.1));have n1_:=am_ (KeepBut.trans (by exact HK.out) hk (.inl rfl));have n2_:=am_ hb;have n3_:=am_ hi;clear HO_7;clear HK;clear HB;clear HI0;have HO_7:=n0_;have HK:=n1_;have HB:=n2_;have HI0:=n3_;clear n0_ n1_ n2_ n3_;(try clear hb);(try clear hk);(try clear hi)) | ((with_reducible refine gate_dst (N:=49) rfl ?_);(try (refine gate_guard (by rfl) ?_;dsimp only));refine Kd.R_lit (Kd.int .i64) _ 3 ?hg (N:=49) ?hd (xs:=([(-2),(l1.length : Int),0] : List Int)) (inner := [.int .i64 (-2), .int .i64 (l1.length : Int), .int .i64 0]) (ok:=fun _ => True) (okp:=fun _ => True) ?hr ?hp (fun _ hk => hk) trivial (Below.refl _ _) (Nat.le_refl _) (by simp) ?_;(case hd => rfl);(case hg => rfl);(case hr => (go_simp;done));(case hp => exact (Reps.one (show Kd.M (Kd.int .i64) _ _ _ (-2) [.int .i64 (-2)] from rfl) (Reps.one (show Kd.M (Kd.int .i64) _ _ _ (l1.length : Int) [.int .i64 (l1.length : Int)] from rfl) (Reps.one (show Kd.M (Kd.int .i64) _ _ _ 0 [.int .i64 0] from rfl) (Reps.none _ _)))));intro v523 w35 ho36 hb hg_ hnew_;clear hg_ hnew_;(rw [← Ny522.out] at ho36);have n0_:=am_ (Kd.R_elder' (by exact HO_7.out) (Kd.R_base ho36) hb);have n1_:=am_ (Kd.R_lower (Kd.R_new' ho36 (Kd.R_lt (by exact HO_7.out))) (keep_size (w:=w) (g:=g) (row:=none) (by exact HK.out)));have n2_:=am_ (IsS73.below (by exact HI0.out) hb);have n3_:=am_ (KeepBut.trans (by exact HK.out) (KeepBut.of_below hb g none) (.inl rfl));have n4_:=am_ (below_step (by exact HB.out) hb);clear HO_7;clear HI0;clear HK;clear HB;have HO_7:=n0_;have HO524:=n1_;have HI0:=n2_;have HK:=n3_;have HB:=n4_;clear n0_ n1_ n2_ n3_ n4_;clear hb ho36;obtain ⟨Ao37,co37,eo37⟩ := Kd.R_slice HO524.out;subst eo37) | ((with_reducible refine gate_callee (f:=72) rfl ?_);refine goesL_ (some 50) rfl rfl Try.func72 (by kernel_rfl) rfl #[.pointer (some ⟨g,0,none⟩), .slice Ao37 y522.length co37] rfl (by (try simp only [List.map_toArray,List.map_cons,List.map_nil]);rfl) ?_;(with_reducible refine (spec_l1Cur_among.calls g s0_0 t520 t521 _ _ y522 t525 t526 t527 w0 _ ?side1 ?side2 ?side3 ?side4 ?side5 A28.out).mono ?_);(case side1 => exact HI0.out);(case side2 => exact HB.out);(case side3 => repeat (exact (Kd.R_reads' HO524.out).2.2));(case side4 => exact (Kd.R_reads' HO524.out).2.1);(case side5 => exact far_slice (IsS73.own_ne HI0.out HO524.out (by decide)));rintro e w38 ⟨rfl,hi,hb,hk⟩;refine ⟨_,rfl, ?_⟩;have n0_:=am_ (Kd.R_mono (Kd.R_keep (IsS73.apart (show IsS73 w0 _ g s0_0 t520 t521 from by exact HI0.out) (by exact HO_7.out) (by decide)) hk (fun _ h => h.2)) (fun _ h => h.1));have n1_:=am_ (Kd.R_mono (Kd.R_keep (IsS73.apart (show IsS73 w0 _ g s0_0 t520 t521 from by exact HI0.out) (by exact HO524.out) (by decide)) hk (fun _ h => h.2)) (fun _ h => h.1));have n2_:=am_ (KeepBut.trans (by exact HK.out) hk (.inl rfl));have n3_:=am_ hb;have n4_:=am_ hi;clear HO_7;clear HO524;clear HK;clear HB;clear HI0;have HO_7:=n0_;have HO524:=n1_;have HK:=n2_;have HB:=n3_;have HI0:=n4_;clear n0_ n1_ n2_ n3_ n4_;(try clear hb);(try clear hk);(try clear hi);have p31 : 0 ≤ (t519 : Int):=of_decide_eq_true (by (with_reducible assumption));have q31 : (t519 : Int) < ((x7_5.length : Int) : Int):=of_decide_eq_true (by (with_reducible assumption));obtain ⟨go31,co31,eo31,gb31,gl31,cl31,HG31⟩ := Kd.R_form HO_7.out (by omega);(cases eo31);have GB31:=am_ gb31;have GG31:=am_ HG31;clear gb31 gl31 HG31;obtain ⟨hx31_0,hf31_0⟩ := Kd.R_celln 0 HO_7.out (t519 : Int) p31 q31;replace p31:=eq_true p31;replace q31:=eq_true q31;have n_:=am_ (Kd.R_mono (ok':=(fun k_ => some k_ ≠ (.slice Ao37 y522.length co37 : Value).ownBlock)) HO_7.out (fun k_ hk => hk.2));clear HO_7;have HO_7:=n_;clear n_;obtain ⟨hy39_,hz39_⟩ := Kd.R_celln 0 HO_7.out (t519 : Int) (of_decide_eq_true (by (with_reducible assumption))) (of_decide_eq_true (by (with_reducible assumption)));have HP39:=Kd.R_putg HO_7.out (t519 : Int) t525) | ((with_reducible refine gate_store (t:=3) (p:=51) rfl ?_);refine store_event (t:=3) (p:=51) (v:=?vo_w40) (w1:=(w38.setCell ⟨go31,(t519 : Int).toNat,none⟩ (.int .i64 t525))) ?hg ?ho ?hn ?hr ?_;(case ho => rfl);(case hg => rfl);(case hn => rfl);(case hr => (go_simp;done));intro w40 hw;have hg : w38.grownBy w40 (some go31):=(by rw [hw];exact HP39.2);have hp_ : Kd.R (Kd.int .i64) 3 w40 w.heap.size (fun k_ => some k_ ≠ (.slice Ao37 y522.length co37 : Value).ownBlock) (.slice (some ⟨go31,0,none⟩) x7_5.length co33) y528:=(by rw [hw,Ny528.out];exact HP39.1);clear HP39;have n0_:=am_ (hp_);have n1_:=am_ (IsS73.grownX11 HI0.out (by exact HI0.out) hg (IsS73.own_ne HI0.out HO_7.out (by decide)));have n2_:=am_ (Kd.R_after (v:=(.slice (some ⟨go31,0,none⟩) x7_5.length co33)) (v1:=(.slice (some ⟨go31,0,none⟩) x7_5.length co33)) (ok:=(fun _ => True)) (by exact HO524.out) hg (.inl rfl));have n3_:=am_ ((by rw [hw];exact below_set (HB.out) (Nat.le_trans HL.out GB31.out) : Below w0.heap.size w0 w40));have n4_:=am_ (KeepBut.trans (by exact HK.out) (KeepBut.of_grown hg g) (Kd.R_base2 HO_7.out));clear HO_7;clear HI0;clear HO524;clear HB;clear HK;have HO_7:=n0_;have HI0:=n1_;have HO524:=n2_;have HB:=n3_;have HK:=n4_;clear n0_ n1_ n2_ n3_ n4_;clear hg hw hp_))
        go_ret
        exact ⟨_,by rfl,by exact Kd.R_mono HO_7.out (fun _ hk => trivial),by exact HI0.out,by exact HB.out,by exact HK.out⟩
       ·rw [if_neg c30] at H
        exact absurd H (by simp)
      ·rw [if_neg c29] at H
       exact absurd H (by simp)
     ·rw [if_neg c26] at H;have c26b0 : decide (0 < (x7_5.length : Int)) = false:=decide_eq_false c26;have c26b1 : decide (0 < x7_5.length) = false:=decide_eq_false (by omega);clear c26;simp only [Option.some.injEq,Prod.mk.injEq] at H;obtain ⟨rfl,rfl,rfl⟩ := H
      go_wp2_with (((with_reducible refine gate_callee (f:=43) rfl ?_);refine goesL_ (some 30) rfl rfl Try.func43 (by kernel_rfl) rfl #[.pointer (some ⟨g,0,none⟩), .int .i64 24] rfl (by (try simp only [List.map_toArray,List.map_cons,List.map_nil]);rfl) ?_;(with_reducible refine (spec_l1Cur_pick.calls g s0_0 x1001_5 x1002_5 24 t513 t514 t515 w0 _ ?side1 ?side2 A20.out).mono ?_);(case side1 => exact HI0.out);(case side2 => exact HB.out);rintro e w41 ⟨rfl,hi,hb,hk⟩;refine ⟨_,rfl, ?_⟩;have n0_:=am_ (Kd.R_mono (Kd.R_keep (IsS73.apart (show IsS73 w0 _ g s0_0 x1001_5 x1002_5 from by exact HI0.out) (by exact HO_7.out) (by decide)) hk (fun _ h => h.2)) (fun _ h => h.1));have n1_:=am_ (KeepBut.trans (by exact HK.out) hk (.inl rfl));have n2_:=am_ hb;have n3_:=am_ hi;clear HO_7;clear HK;clear HB;clear HI0;have HO_7:=n0_;have HK:=n1_;have HB:=n2_;have HI0:=n3_;clear n0_ n1_ n2_ n3_;(try clear hb);(try clear hk);(try clear hi);obtain ⟨Ao42,co42,eo42⟩ := Kd.R_slice HO_7.out;subst eo42))
      go_ret
      exact ⟨_,by rfl,by exact HO_7.out,by exact HI0.out,by exact HB.out,by exact HK.out⟩
    ·rw [if_neg c25] at H;have c25b0 : (t513 == 1) = false:=beq_eq_false_iff_ne.mpr c25;have c25b1 : (t513 != 1) = true:=bne_iff_ne.mpr c25;simp only [Option.some.injEq,Prod.mk.injEq] at H;obtain ⟨rfl,rfl,rfl⟩ := H
     go_wp2_with (((with_reducible refine gate_callee (f:=43) rfl ?_);refine goesL_ (some 30) rfl rfl Try.func43 (by kernel_rfl) rfl #[.pointer (some ⟨g,0,none⟩), .int .i64 24] rfl (by (try simp only [List.map_toArray,List.map_cons,List.map_nil]);rfl) ?_;(with_reducible refine (spec_l1Cur_pick.calls g s0_0 x1001_5 x1002_5 24 t513 t514 t515 w0 _ ?side1 ?side2 A20.out).mono ?_);(case side1 => exact HI0.out);(case side2 => exact HB.out);rintro e w43 ⟨rfl,hi,hb,hk⟩;refine ⟨_,rfl, ?_⟩;have n0_:=am_ (Kd.R_mono (Kd.R_keep (IsS73.apart (show IsS73 w0 _ g s0_0 x1001_5 x1002_5 from by exact HI0.out) (by exact HO_7.out) (by decide)) hk (fun _ h => h.2)) (fun _ h => h.1));have n1_:=am_ (KeepBut.trans (by exact HK.out) hk (.inl rfl));have n2_:=am_ hb;have n3_:=am_ hi;clear HO_7;clear HK;clear HB;clear HI0;have HO_7:=n0_;have HK:=n1_;have HB:=n2_;have HI0:=n3_;clear n0_ n1_ n2_ n3_;(try clear hb);(try clear hk);(try clear hi)))
     go_ret
     exact ⟨_,by rfl,by exact HO_7.out,by exact HI0.out,by exact HB.out,by exact HK.out⟩

/-! ### spec_DrawIsValidLoading: function 53 -/
def spec_DrawIsValidLoading.f (k : Nat) (l0 : List Int) : Option ((List (S54)) × (List (S64)) × List Int):=(spec_l1Cur_train.f k l0 0 0 4).bind fun bt530 => ((spec_l1Cur_containers.f k l0 bt530.2.1 bt530.2.2).bind fun bt535 => ((spec_l1Cur_loading.f k l0 bt535.2.1 bt535.2.2 bt530.1 bt535.1).bind fun bt540 => (some (bt530.1,bt535.1,bt540.1))))
theorem spec_DrawIsValidLoading.mono : ∀ a0 k,LeO (spec_DrawIsValidLoading.f k a0) (spec_DrawIsValidLoading.f (k + 1) a0):=by
 intro a0 k
 unfold spec_DrawIsValidLoading.f
 repeat' first
   | (with_reducible exact spec_l1Cur_containers.mono _ _ _ _)
   | (with_reducible exact spec_l1Cur_loading.mono _ _ _ _ _ _)
   | (with_reducible exact spec_l1Cur_train.mono _ _ _ _ _)
   | (with_reducible exact LeO.refl _)
   | (with_reducible exact LeO.none _)
   | (with_reducible refine LeO.ite ?_ ?_)
   | (with_reducible refine LeO.bind ?_ (fun _ => ?_))
   | exact spec_l1Cur_containers.mono _ _ _ _
   | exact spec_l1Cur_loading.mono _ _ _ _ _ _
   | exact spec_l1Cur_train.mono _ _ _ _ _
   | exact LeO.none _
   | refine LeO.ite ?_ ?_
   | refine LeO.bind ?_ (fun _ => ?_)
set_option maxHeartbeats 8000000 in
set_option maxRecDepth 100000 in
theorem spec_DrawIsValidLoading.calls (k : Nat) (A0 : Option Addr) (c0 : Nat) (l0 : List Int) (r1 : List (S54)) (r2 : List (S64)) (r3 : List Int) (w : World) (hr0 : Kd.C (Kd.int .u8) w A0 l0.length l0) (hc0 : l0.length ≤ c0) (h : spec_DrawIsValidLoading.f k l0 = some (r1,r2,r3)) :
  Calls Try.prog 53 #[.slice A0 l0.length c0] w fun e w' => ∃ v0_ v1_ v2_ : Value,e = .returned (.tuple #[v0_,v1_,v2_]) ∧ Kd.R k54 54 w' w.heap.size (fun _ => True) v0_ r1 ∧ Kd.R k64 64 w' w.heap.size (fun _ => True) v1_ r2 ∧ Kd.R (Kd.int .i64) 3 w' w.heap.size (fun _ => True) v2_ r3 ∧ Below w.heap.size w w':=by
 have hu73:=Try.underlying73;have HR0:=am_ hr0;have HC0:=am_ hc0;clear hr0 hc0;have HB:=am_ (Below.refl w.heap.size w);have H : ((spec_l1Cur_train.f k l0 0 0 4).bind fun bt530 => ((spec_l1Cur_containers.f k l0 bt530.2.1 bt530.2.2).bind fun bt535 => ((spec_l1Cur_loading.f k l0 bt535.2.1 bt535.2.2 bt530.1 bt535.1).bind fun bt540 => (some (bt530.1,bt535.1,bt540.1))))) = some (r1,r2,r3):=h;clear h;replace H:=Option.bind_eq_some_iff.mp H;obtain ⟨⟨t530,t533,t534⟩,A20,H⟩ := H;replace H : ((spec_l1Cur_containers.f k l0 t533 t534).bind fun bt535 => ((spec_l1Cur_loading.f k l0 bt535.2.1 bt535.2.2 t530 bt535.1).bind fun bt540 => (some (t530,bt535.1,bt540.1)))) = some (r1,r2,r3):=H;have A2:=am_ A20;clear A20;replace H:=Option.bind_eq_some_iff.mp H;obtain ⟨⟨t535,t538,t539⟩,A30,H⟩ := H;replace H : ((spec_l1Cur_loading.f k l0 t538 t539 t530 t535).bind fun bt540 => (some (t530,t535,bt540.1))) = some (r1,r2,r3):=H;have A3:=am_ A30;clear A30;replace H:=Option.bind_eq_some_iff.mp H;obtain ⟨⟨t540,t543,t544⟩,A40,H⟩ := H;replace H : (some (t530,t535,t540)) = some (r1,r2,r3):=H;have A4:=am_ A40;clear A40;simp only [Option.some.injEq,Prod.mk.injEq] at H;obtain ⟨rfl,rfl,rfl⟩ := H
 go_enter Try.func53,Try.ntmps53
 go_wp2_with (first | ((with_reducible refine gate_dst (N:=10) rfl ?_);refine box_event ?hg (N:=10) ?hd (cs:=#[.slice A0 l0.length c0, .int .i64 0, .int .u64 0]) (t:=73) ?hr ?_;(case hd => rfl);(case hg => rfl);(case hr => (go_simp;done));intro gb529 hg w5 hbox hb;have n0_:=am_ (below_step (by exact HB.out) hb);have n1_:=am_ ((show IsS73 w _ gb529 l0 0 0 from ⟨_,_,hbox,(ge_ hg (by exact HB.out)),HR0.out⟩));clear HB;have HB:=n0_;have HI529:=n1_;clear n0_ n1_;clear hb hbox hg) | ((with_reducible refine gate_callee (f:=42) rfl ?_);refine goesL_ (some 12) rfl rfl Try.func42 (by kernel_rfl) rfl #[.pointer (some ⟨gb529,0,none⟩), .int .i64 4] rfl (by (try simp only [List.map_toArray,List.map_cons,List.map_nil]);rfl) ?_;(with_reducible refine (spec_l1Cur_train.calls k gb529 l0 0 0 4 t530 t533 t534 w _ ?side1 ?side2 A2.out).mono ?_);(case side1 => exact HI529.out);(case side2 => exact HB.out);rintro e w6 ⟨v531,rfl,ho0,hi,hb,hk⟩;refine ⟨_,rfl, ?_⟩;have n0_:=am_ (Kd.R_lower ho0 (below_size (by exact HB.out)));have n1_:=am_ hb;have n2_:=am_ hi;clear HB;clear HI529;have HO532:=n0_;have HB:=n1_;have HI529:=n2_;clear n0_ n1_ n2_;(try clear hb);(try clear hk);(try clear hi);(try clear ho0)) | ((with_reducible refine gate_callee (f:=44) rfl ?_);refine goesL_ (some 14) rfl rfl Try.func44 (by kernel_rfl) rfl #[.pointer (some ⟨gb529,0,none⟩)] rfl (by (try simp only [List.map_toArray,List.map_cons,List.map_nil]);rfl) ?_;(with_reducible refine (spec_l1Cur_containers.calls k gb529 l0 t533 t534 t535 t538 t539 w _ ?side1 ?side2 A3.out).mono ?_);(case side1 => exact HI529.out);(case side2 => exact HB.out);rintro e w7 ⟨v536,rfl,ho0,hi,hb,hk⟩;refine ⟨_,rfl, ?_⟩;have n0_:=am_ (Kd.R_mono (Kd.R_keep (IsS73.apart (show IsS73 w _ gb529 l0 t533 t534 from by exact HI529.out) (by exact HO532.out) (by decide)) hk (fun _ h => h.2)) (fun _ h => h.1));have n1_:=am_ (Kd.R_lower ho0 (below_size (by exact HB.out)));have n2_:=am_ hb;have n3_:=am_ hi;clear HO532;clear HB;clear HI529;have HO532:=n0_;have HO537:=n1_;have HB:=n2_;have HI529:=n3_;clear n0_ n1_ n2_ n3_;(try clear hb);(try clear hk);(try clear hi);(try clear ho0);obtain ⟨Ao8,co8,eo8⟩ := Kd.R_slice HO532.out;subst eo8;obtain ⟨Ao9,co9,eo9⟩ := Kd.R_slice HO537.out;subst eo9) | ((with_reducible refine gate_callee (f:=79) rfl ?_);refine goesL_ (some 20) rfl rfl Try.func79 (by kernel_rfl) rfl #[.pointer (some ⟨gb529,0,none⟩), .slice Ao8 t530.length co8, .slice Ao9 t535.length co9] rfl (by (try simp only [List.map_toArray,List.map_cons,List.map_nil]);rfl) ?_;(with_reducible refine (spec_l1Cur_loading.calls k gb529 l0 t538 t539 _ _ t530 _ _ t535 t540 t543 t544 w _ ?side1 ?side2 ?side3 ?side4 ?side5 ?side6 A4.out).mono ?_);(case side1 => exact HI529.out);(case side2 => exact HB.out);(case side3 => exact Kd.C_foot_own (IsS73.apart (show IsS73 w _ gb529 l0 t538 t539 from by exact HI529.out) (by exact HO532.out) (by decide)) (fun _ h_ => h_.2));(case side4 => exact (Kd.R_reads' HO532.out).2.1);(case side5 => exact Kd.C_foot_own (IsS73.apart (show IsS73 w _ gb529 l0 t538 t539 from by exact HI529.out) (by exact HO537.out) (by decide)) (fun _ h_ => h_.2));(case side6 => exact (Kd.R_reads' HO537.out).2.1);rintro e w10 ⟨v541,rfl,ho0,hi,hb,hk⟩;refine ⟨_,rfl, ?_⟩;have n0_:=am_ (Kd.R_mono (Kd.R_keep (IsS73.apart (show IsS73 w _ gb529 l0 t538 t539 from by exact HI529.out) (by exact HO532.out) (by decide)) hk (fun _ h => h.2)) (fun _ h => h.1));have n1_:=am_ (Kd.R_mono (Kd.R_keep (IsS73.apart (show IsS73 w _ gb529 l0 t538 t539 from by exact HI529.out) (by exact HO537.out) (by decide)) hk (fun _ h => h.2)) (fun _ h => h.1));have n2_:=am_ (Kd.R_lower ho0 (below_size (by exact HB.out)));have n3_:=am_ hb;have n4_:=am_ hi;clear HO532;clear HO537;clear HB;clear HI529;have HO532:=n0_;have HO537:=n1_;have HO542:=n2_;have HB:=n3_;have HI529:=n4_;clear n0_ n1_ n2_ n3_ n4_;(try clear hb);(try clear hk);(try clear hi);(try clear ho0)))
 go_ret3
 exact ⟨_,_,_,by rfl,by exact HO532.out,by exact HO537.out,by exact HO542.out,by exact HB.out⟩

/-! ### spec_DrawFreeLengths: function 21 -/
def spec_DrawFreeLengths.f (k : Nat) (l0 : List Int) : Option ((List (S54)) × (List (S64)) × List Int):=(spec_DrawIsValidLoading.f k l0).bind fun bt545 => (some (bt545.1,bt545.2.1,bt545.2.2))
theorem spec_DrawFreeLengths.mono : ∀ a0 k,LeO (spec_DrawFreeLengths.f k a0) (spec_DrawFreeLengths.f (k + 1) a0):=by
 intro a0 k
 unfold spec_DrawFreeLengths.f
 repeat' first
   | (with_reducible exact spec_DrawIsValidLoading.mono _ _)
   | (with_reducible exact LeO.refl _)
   | (with_reducible exact LeO.none _)
   | (with_reducible refine LeO.ite ?_ ?_)
   | (with_reducible refine LeO.bind ?_ (fun _ => ?_))
   | exact spec_DrawIsValidLoading.mono _ _
   | exact LeO.none _
   | refine LeO.ite ?_ ?_
   | refine LeO.bind ?_ (fun _ => ?_)
set_option maxHeartbeats 8000000 in
set_option maxRecDepth 100000 in
theorem spec_DrawFreeLengths.calls (k : Nat) (A0 : Option Addr) (c0 : Nat) (l0 : List Int) (r1 : List (S54)) (r2 : List (S64)) (r3 : List Int) (w : World) (hr0 : Kd.C (Kd.int .u8) w A0 l0.length l0) (hc0 : l0.length ≤ c0) (h : spec_DrawFreeLengths.f k l0 = some (r1,r2,r3)) :
  Calls Try.prog 21 #[.slice A0 l0.length c0] w fun e w' => ∃ v0_ v1_ v2_ : Value,e = .returned (.tuple #[v0_,v1_,v2_]) ∧ Kd.R k54 54 w' w.heap.size (fun _ => True) v0_ r1 ∧ Kd.R k64 64 w' w.heap.size (fun _ => True) v1_ r2 ∧ Kd.R (Kd.int .i64) 3 w' w.heap.size (fun _ => True) v2_ r3 ∧ Below w.heap.size w w':=by
 have HR0:=am_ hr0;have HC0:=am_ hc0;clear hr0 hc0;have HB:=am_ (Below.refl w.heap.size w);have H : ((spec_DrawIsValidLoading.f k l0).bind fun bt545 => (some (bt545.1,bt545.2.1,bt545.2.2))) = some (r1,r2,r3):=h;clear h;replace H:=Option.bind_eq_some_iff.mp H;obtain ⟨⟨t545,t546,t547⟩,A20,H⟩ := H;replace H : (some (t545,t546,t547)) = some (r1,r2,r3):=H;have A2:=am_ A20;clear A20;simp only [Option.some.injEq,Prod.mk.injEq] at H;obtain ⟨rfl,rfl,rfl⟩ := H
 go_enter Try.func21,Try.ntmps21
 go_wp2_with (((with_reducible refine gate_callee (f:=53) rfl ?_);refine goesL_ (some 6) rfl rfl Try.func53 (by kernel_rfl) rfl #[.slice A0 l0.length c0] rfl (by (try simp only [List.map_toArray,List.map_cons,List.map_nil]);rfl) ?_;(with_reducible refine (spec_DrawIsValidLoading.calls k _ _ l0 t545 t546 t547 _ ?side1 ?side2 A2.out).mono ?_);(case side1 => repeat (exact HR0.out));(case side2 => exact HC0.out);rintro e w3 ⟨v548,v550,v552,rfl,ho0,ho1,ho2,hb⟩;refine ⟨_,rfl, ?_⟩;have n0_:=am_ (Kd.R_lower ho0 (below_size (by exact HB.out)));have n1_:=am_ (Kd.R_lower ho1 (below_size (by exact HB.out)));have n2_:=am_ (Kd.R_lower ho2 (below_size (by exact HB.out)));have n3_:=am_ (below_step (by exact HB.out) hb);clear HB;have HO549:=n0_;have HO551:=n1_;have HO553:=n2_;have HB:=n3_;clear n0_ n1_ n2_ n3_;(try clear hb);(try clear ho0);(try clear ho1);(try clear ho2)))
 go_ret3
 exact ⟨_,_,_,by rfl,by exact HO549.out,by exact HO551.out,by exact HO553.out,by exact HB.out⟩

/-! ### impl_FreeLengths: function 22 -/
def impl_FreeLengths.l0 : Nat → List Int → List (S54) → Int → Int → Option (List Int × Bool)
 | 0,_,_,_,_ => none
 | k + 1,x8,x24,x25,x26 => if x26 < x25 then (if 0 ≤ x26 then (if x26 < (x24.length : Int) then (if x26 < (x8.length : Int) then (impl_FreeLengths.l0 k (x8.set (x26 : Int).toNat (wrap64 (((rd_T54 x24 x26).f0) - (rd x8 x26)))) x24 x25 (wrap64 (x26 + 1))) else (none)) else (none)) else (none)) else (some (x8,true))
def impl_FreeLengths.f (k : Nat) (l0 : List (S54)) (l1 : List (S64)) (l2 : List Int) : Option (List Int × Bool):=(impl_IsValidLoading.f k l0 l1 l2).bind fun t554 => (if t554 = true then ((impl_usage.f k l0 l1 l2).bind fun bt555 => (impl_FreeLengths.l0 k bt555.1 l0 (l0.length : Int) 0)) else (some (([] : List Int),false)))
theorem impl_FreeLengths.mono_l : ∀ k,(∀ y0 y1 y2 y3,LeO (impl_FreeLengths.l0 k y0 y1 y2 y3) (impl_FreeLengths.l0 (k + 1) y0 y1 y2 y3))
 | 0 => fun _ _ _ _ r h => by simp [impl_FreeLengths.l0] at h
 | k + 1 => by
  have ih0:=impl_FreeLengths.mono_l k
  ·intro y0 y1 y2 y3
   unfold impl_FreeLengths.l0
   repeat' first
   | (with_reducible exact ih0 _ _ _ _)
   | (with_reducible exact impl_IsValidLoading.mono _ _ _ _)
   | (with_reducible exact impl_usage.mono _ _ _ _)
   | (with_reducible exact LeO.refl _)
   | (with_reducible exact LeO.none _)
   | (with_reducible refine LeO.ite ?_ ?_)
   | (with_reducible refine LeO.bind ?_ (fun _ => ?_))
   | exact ih0 _ _ _ _
   | exact impl_IsValidLoading.mono _ _ _ _
   | exact impl_usage.mono _ _ _ _
   | exact LeO.none _
   | refine LeO.ite ?_ ?_
   | refine LeO.bind ?_ (fun _ => ?_)
theorem impl_FreeLengths.mono : ∀ a0 a1 a2 k,LeO (impl_FreeLengths.f k a0 a1 a2) (impl_FreeLengths.f (k + 1) a0 a1 a2):=by
 intro a0 a1 a2 k;have ih0:=impl_FreeLengths.mono_l k
 unfold impl_FreeLengths.f
 repeat' first
   | (with_reducible exact ih0 _ _ _ _)
   | (with_reducible exact impl_IsValidLoading.mono _ _ _ _)
   | (with_reducible exact impl_usage.mono _ _ _ _)
   | (with_reducible exact LeO.refl _)
   | (with_reducible exact LeO.none _)
   | (with_reducible refine LeO.ite ?_ ?_)
   | (with_reducible refine LeO.bind ?_ (fun _ => ?_))
   | exact ih0 _ _ _ _
   | exact impl_IsValidLoading.mono _ _ _ _
   | exact impl_usage.mono _ _ _ _
   | exact LeO.none _
   | refine LeO.ite ?_ ?_
   | refine LeO.bind ?_ (fun _ => ?_)
def impl_FreeLengths.T7 : Bool × List (List Nat × List Nat):=(true,[([],[]),([],[]),([],[]),([2],[2]),([],[]),([],[]),([4,5],[4,5]),([6],[6]),([3,7],[3,7]),([0,1,0,1,2,3,4,5,6,7,8],[0,1]),([9,8,0,1,2,3,4,5,6,7,8],[8,9])])
def impl_FreeLengths.B7 : List Nat := [0,0,0,4,0,0,48,112,252,511,1023]
theorem impl_FreeLengths.tab7 : rtab .any (opsOf Try.f22 7) = impl_FreeLengths.T7:=by kernel_rfl
theorem impl_FreeLengths.bits7 : waitsOk impl_FreeLengths.T7.2 impl_FreeLengths.B7 = true:=by kernel_rfl
set_option maxHeartbeats 8000000 in
set_option maxRecDepth 100000 in
theorem impl_FreeLengths.calls (k : Nat) (A0 : Option Addr) (c0 : Nat) (l0 : List (S54)) (A1 : Option Addr) (c1 : Nat) (l1 : List (S64)) (A2 : Option Addr) (c2 : Nat) (l2 : List Int) (r1 : List Int) (r2 : Bool) (w : World) (hr0 : Kd.C k54 w A0 l0.length l0) (hc0 : l0.length ≤ c0) (hr1 : Kd.C k64 w A1 l1.length l1) (hc1 : l1.length ≤ c1) (hr2 : Kd.C (Kd.int .i64) w A2 l2.length l2) (hc2 : l2.length ≤ c2) (h : impl_FreeLengths.f k l0 l1 l2 = some (r1,r2)) :
  Calls Try.prog 22 #[.slice A0 l0.length c0, .slice A1 l1.length c1, .slice A2 l2.length c2] w fun e w' => ∃ v0_ : Value,e = .returned (.tuple #[v0_, .bool r2]) ∧ Kd.R (Kd.int .i64) 3 w' w.heap.size (fun _ => True) v0_ r1 ∧ Below w.heap.size w w':=by
 have hu54:=Try.underlying54;have HR0:=am_ hr0;have HC0:=am_ hc0;clear hr0 hc0;have HR1:=am_ hr1;have HC1:=am_ hc1;clear hr1 hc1;have HR2:=am_ hr2;have HC2:=am_ hc2;clear hr2 hc2;have HB:=am_ (Below.refl w.heap.size w);have H : ((impl_IsValidLoading.f k l0 l1 l2).bind fun t554 => (if t554 = true then ((impl_usage.f k l0 l1 l2).bind fun bt555 => (impl_FreeLengths.l0 k bt555.1 l0 (l0.length : Int) 0)) else (some (([] : List Int),false)))) = some (r1,r2):=h;clear h;replace H:=Option.bind_eq_some_iff.mp H;obtain ⟨t554,A40,H⟩ := H;replace H : (if t554 = true then ((impl_usage.f k l0 l1 l2).bind fun bt555 => (impl_FreeLengths.l0 k bt555.1 l0 (l0.length : Int) 0)) else (some (([] : List Int),false))) = some (r1,r2):=H;have A4:=am_ A40;clear A40
 by_cases c5 : t554 = true
 ·subst c5
  have H1 : ((impl_usage.f k l0 l1 l2).bind fun bt555 => (impl_FreeLengths.l0 k bt555.1 l0 (l0.length : Int) 0)) = some (r1,r2):=by rw [if_pos rfl] at H;exact H
  clear H;have H:=H1;clear H1;replace H:=Option.bind_eq_some_iff.mp H;obtain ⟨⟨t555,t556⟩,A60,H⟩ := H;replace H : (impl_FreeLengths.l0 k t555 l0 (l0.length : Int) 0) = some (r1,r2):=H;have A6:=am_ A60;clear A60;have H':=am_ H;clear H
  go_enter Try.func22,Try.ntmps22
  go_wp2_with (first | ((with_reducible refine gate_callee (f:=19) rfl ?_);refine goesL_ (some 15) rfl rfl Try.func19 (by kernel_rfl) rfl #[.slice A0 l0.length c0, .slice A1 l1.length c1, .slice A2 l2.length c2] rfl (by (try simp only [List.map_toArray,List.map_cons,List.map_nil]);rfl) ?_;(with_reducible refine (impl_IsValidLoading.calls k _ _ l0 _ _ l1 _ _ l2 true _ ?side1 ?side2 ?side3 ?side4 ?side5 ?side6 A4.out).mono ?_);(case side1 => repeat (exact HR0.out));(case side2 => exact HC0.out);(case side3 => repeat (exact HR1.out));(case side4 => exact HC1.out);(case side5 => repeat (exact HR2.out));(case side6 => exact HC2.out);rintro e w7 ⟨rfl,hb⟩;refine ⟨_,rfl, ?_⟩;have n0_:=am_ (below_step (by exact HB.out) hb);clear HB;have HB:=n0_;clear n0_;(try clear hb)) | ((with_reducible refine gate_callee (f:=54) rfl ?_);refine goesL_ (some 21) rfl rfl Try.func54 (by kernel_rfl) rfl #[.slice A0 l0.length c0, .slice A1 l1.length c1, .slice A2 l2.length c2] rfl (by (try simp only [List.map_toArray,List.map_cons,List.map_nil]);rfl) ?_;(with_reducible refine (impl_usage.calls k _ _ l0 _ _ l1 _ _ l2 t555 t556 _ ?side1 ?side2 ?side3 ?side4 ?side5 ?side6 A6.out).mono ?_);(case side1 => repeat (exact (Kd.C_below HR0.out HB.out)));(case side2 => exact HC0.out);(case side3 => repeat (exact (Kd.C_below HR1.out HB.out)));(case side4 => exact HC1.out);(case side5 => repeat (exact (Kd.C_below HR2.out HB.out)));(case side6 => exact HC2.out);rintro e w8 ⟨v557,v559,rfl,ho0,ho1,hb⟩;refine ⟨_,rfl, ?_⟩;have n0_:=am_ (Kd.R_lower ho0 (below_size (by exact HB.out)));have n1_:=am_ (Kd.R_lower ho1 (below_size (by exact HB.out)));have n2_:=am_ (below_step (by exact HB.out) hb);clear HB;have HO558:=n0_;have HO560:=n1_;have HB:=n2_;clear n0_ n1_ n2_;(try clear hb);(try clear ho0);(try clear ho1)))
  (skip)
  go_loopg [26] k (fun kq v26 w' => ∃ (x8_1 : List Int) (x26_1 : Int),v26 = .int .i64 x26_1 ∧ Aside0 (impl_FreeLengths.l0 kq x8_1 l0 (l0.length : Int) x26_1 = some (r1,r2)) ∧ Aside0 (kq ≤ k) ∧ Aside0 (Kd.R (Kd.int .i64) 3 w' w.heap.size (fun _ => True) v557 x8_1) ∧ Aside0 (Below w.heap.size w w'))
  case atStart => exact ⟨(t555),(0),(by rfl),H',⟨Nat.le_refl _⟩,⟨by exact Kd.R_mono HO558.out (fun _ hk => trivial)⟩,⟨by exact HB.out⟩⟩
  case round =>
   clear H';(try clear c1);(try clear c2);(try clear p2);(try clear c5);obtain ⟨x8_1,x26_1,rfl,HA,HK1,HO_8,HB⟩ := hrel
   cases gk with
   | zero => exact absurd HA.out (by simp [impl_FreeLengths.l0])
   | succ k1 =>
    have H:=HA.out;clear HA;simp only [impl_FreeLengths.l0] at H
    by_cases c9 : x26_1 < (l0.length : Int)
    ·rw [if_pos c9] at H;have c9b0 : decide (x26_1 < (l0.length : Int)) = true:=decide_eq_true c9;clear c9
     by_cases c10 : 0 ≤ x26_1
     ·rw [if_pos c10] at H;have c10b0 : decide (0 ≤ x26_1) = true:=decide_eq_true c10;clear c10
      by_cases c11 : x26_1 < (l0.length : Int)
      ·rw [if_pos c11] at H;have c11b0 : decide (x26_1 < (l0.length : Int)) = true:=decide_eq_true c11;clear c11
       by_cases c12 : x26_1 < (x8_1.length : Int)
       ·rw [if_pos c12] at H;have c12b0 : decide (x26_1 < (x8_1.length : Int)) = true:=decide_eq_true c12;clear c12;obtain ⟨y564,hy564⟩ : ∃ y_ : List Int,y_ = (x8_1.set (x26_1 : Int).toNat (wrap64 (((rd_T54 l0 x26_1).f0) - (rd x8_1 x26_1)))):=⟨_,rfl⟩
        replace H : (impl_FreeLengths.l0 k1 y564 l0 (l0.length : Int) (wrap64 (x26_1 + 1))) = some (r1,r2):=by (rw [hy564];with_reducible exact H)
        have Ny564:=am_ hy564;clear hy564;have H':=am_ H;clear H;have p561 : 0 ≤ (x26_1 : Int):=of_decide_eq_true (by (with_reducible assumption));have q561 : x26_1 < (l0.length : Int):=of_decide_eq_true (by (with_reducible assumption));obtain ⟨ad561,e561,hx561_0,hx561_1⟩ := at_T54 HR0.out x26_1 p561 q561;cases e561;replace hx561_0:=(HB.out.cell (World.block_lt_of_cell? w _ hx561_0)).trans hx561_0;replace hx561_1:=(HB.out.cell (World.block_lt_of_cell? w _ hx561_1)).trans hx561_1;replace p561:=eq_true p561;replace q561:=eq_true q561
        try go_wp2_with (((with_reducible refine gate_dst (N:=11) rfl ?_);refine box_event ?hg (N:=11) ?hd (cs:=#[.int .i64 0, .int .i64 0]) (t:=54) ?hr ?_;(case hd => rfl);(case hg => rfl);(case hr => (go_simp;done));intro gb562 hg w14 hbox hb;have n0_:=am_ (Kd.R_below (by exact HO_8.out) hb);have n1_:=am_ (below_step (by exact HB.out) hb);have n2_:=am_ hbox;have n3_:=am_ (ge_ hg (by exact HB.out));have n4_:=am_ (ge_ hg (by exact HB.out));clear HO_8;clear HB;have HO_8:=n0_;have HB:=n1_;have BK562:=n2_;have GW562:=n3_;have GE562:=n4_;clear n0_ n1_ n2_ n3_ n4_;clear hb hbox hg;have hcz15_0:=c2_0 BK562.out;have hcz15_1:=c2_1 BK562.out;have hfz15_0:=blk_frozen BK562.out 0;have hfz15_1:=blk_frozen BK562.out 1))
        have n0_ : Aside0 (Kd.R (Kd.int .i64) 3 ((w14.setCell ⟨gb562,0,none⟩ (.int .i64 ((rd_T54 l0 x26_1).f0))).setCell ⟨gb562,1,none⟩ (.int .i64 ((rd_T54 l0 x26_1).f1))) w.heap.size (fun _ => True) v557 x8_1):=⟨by exact Kd.R_mono (rf2_ (Kd.R_types HO_8.out BK562.out (by decide)) (.int .i64 ((rd_T54 l0 x26_1).f0)) (.int .i64 ((rd_T54 l0 x26_1).f1))) (fun _ hk => trivial)⟩;have n1_ : Aside0 (((w14.setCell ⟨gb562,0,none⟩ (.int .i64 ((rd_T54 l0 x26_1).f0))).setCell ⟨gb562,1,none⟩ (.int .i64 ((rd_T54 l0 x26_1).f1))).heap[gb562]? = some (.cells #[.int .i64 ((rd_T54 l0 x26_1).f0), .int .i64 ((rd_T54 l0 x26_1).f1)] 54 (0,0))):=⟨by refine blk_put (cs:=#[.int .i64 ((rd_T54 l0 x26_1).f0), .int .i64 0]) ?_ 1 _ rfl;refine blk_put (cs:=#[.int .i64 0, .int .i64 0]) ?_ 0 _ rfl;exact BK562.out⟩;have n2_ : Aside0 (Below w.heap.size w ((w14.setCell ⟨gb562,0,none⟩ (.int .i64 ((rd_T54 l0 x26_1).f0))).setCell ⟨gb562,1,none⟩ (.int .i64 ((rd_T54 l0 x26_1).f1)))):=⟨by repeat ((with_reducible first | exact HB.out | refine below_set ?_ GE562.out))⟩;(try clear HO_8);(try clear BK562);(try clear HB);generalize ((w14.setCell ⟨gb562,0,none⟩ (.int .i64 ((rd_T54 l0 x26_1).f0))).setCell ⟨gb562,1,none⟩ (.int .i64 ((rd_T54 l0 x26_1).f1))) = w16 at n0_ n1_ n2_ ⊢;have HO_8:=n0_;have BK562:=n1_;have HB:=n2_;clear n0_ n1_ n2_;have n0_:=am_ (Kd.R_drew HO_8.out);have n1_:=am_ (blk_drew BK562.out);have n2_:=am_ (below_drew1 HB.out);clear HO_8;clear BK562;clear HB;have HO_8:=n0_;have BK562:=n1_;have HB:=n2_;clear n0_ n1_ n2_;obtain ⟨Ao18,co18,eo18⟩ := Kd.R_slice HO_8.out
        (subst eo18)
        have p563 : 0 ≤ (x26_1 : Int):=of_decide_eq_true (by (with_reducible assumption));have q563 : x26_1 < (x8_1.length : Int):=of_decide_eq_true (by (with_reducible assumption));obtain ⟨ad563,e563,hx563_0⟩ := Kd.at_int (Kd.R_reads' HO_8.out).2.2 x26_1 p563 q563;cases e563;replace p563:=eq_true p563;replace q563:=eq_true q563;have p13 : 0 ≤ (x26_1 : Int):=of_decide_eq_true (by (with_reducible assumption));have q13 : (x26_1 : Int) < ((x8_1.length : Int) : Int):=of_decide_eq_true (by (with_reducible assumption));obtain ⟨go13,co13,eo13,gb13,gl13,cl13,HG13⟩ := Kd.R_form HO_8.out (by omega)
        (cases eo13)
        have GB13:=am_ gb13;have GG13:=am_ HG13;clear gb13 gl13 HG13
        (simp only [add_plain] at hx563_0)
        obtain ⟨hx13_0,hf13_0⟩ := Kd.R_celln 0 HO_8.out (x26_1 : Int) p13 q13;replace p13:=eq_true p13;replace q13:=eq_true q13;have HP19:=Kd.R_putn HO_8.out (x26_1 : Int) (wrap64 (((rd_T54 l0 x26_1).f0) - (rd x8_1 x26_1)));rw [← Ny564.out] at HP19;have HQ19:=am_ HP19;clear HP19
        refine start_ (n:=11) (S:=fun w' => w'.cell? ⟨gb562,0,none⟩ = some (.int .i64 ((rd_T54 l0 x26_1).f0)) ∧ w'.cell? ⟨gb562,1,none⟩ = some (.int .i64 ((rd_T54 l0 x26_1).f1)) ∧ w'.cell? ⟨go13,(x26_1).toNat,none⟩ = some (.int .i64 (rd x8_1 x26_1))) (ds := [10]) #[false,false,false,false,false,false,false,false,false,false,false] (by kernel_rfl) rfl rfl ⟨(blk_cell BK562.out 0).trans rfl,(blk_cell BK562.out 1).trans rfl,hx563_0⟩ (fun hHeld => ?_);refine with_tabW impl_FreeLengths.tab7 impl_FreeLengths.bits7 (fun HT_ HW_ => ?_)
        generalize w16.drew = w17 at HO_8 BK562 HB GG13 HQ19 hf13_0 hx13_0 hx563_0 hHeld ⊢;refine pure_ (i:=0) (N:=some 31) (v:=?_) (a':=?_) #[true,false,false,false,false,false,false,false,false,false,false] rfl rfl (any_of HT_.out (by kernel_rfl)) (fun _ _ _ h => h) (Or.inl ⟨by rfl, ?_⟩) ?_ ?_
        rotate_left
        ·intro w'
         go_simp
         with_reducible rfl
        rotate_left
        ·simp only [Act.put,sA_,s0_,s1_,i64_w,i32_w]
         rfl
        refine pure_ (i:=1) (N:=some 32) (v:=?_) (a':=?_) #[true,true,false,false,false,false,false,false,false,false,false] rfl rfl (any_of HT_.out (by kernel_rfl)) (fun _ _ _ h => h) (Or.inl ⟨by rfl, ?_⟩) ?_ ?_
        rotate_left
        ·intro w'
         go_simp
         with_reducible rfl
        rotate_left
        ·simp only [Act.put,sA_,s0_,s1_,i64_w,i32_w]
         rfl
        refine pure_ (i:=2) (N:=some 33) (v:=?_) (a':=?_) #[true,true,true,false,false,false,false,false,false,false,false] rfl rfl (any_of HT_.out (by kernel_rfl)) (fun _ _ _ h => h) (Or.inl ⟨by rfl, ?_⟩) ?_ ?_
        rotate_left
        ·intro w'
         go_simp
         with_reducible rfl
        rotate_left
        ·simp only [Act.put,sA_,s0_,s1_,i64_w,i32_w]
         rfl
        refine pure_ (i:=4) (N:=some 35) (v:=?_) (a':=?_) #[true,true,true,false,true,false,false,false,false,false,false] rfl rfl (any_of HT_.out (by kernel_rfl)) (fun _ _ _ h => h) (Or.inl ⟨by rfl, ?_⟩) ?_ ?_
        rotate_left
        ·intro w'
         go_simp
         with_reducible rfl
        rotate_left
        ·simp only [Act.put,sA_,s0_,s1_,i64_w,i32_w]
         rfl
        refine pure_ (i:=5) (N:=some 36) (v:=?_) (a':=?_) #[true,true,true,false,true,true,false,false,false,false,false] rfl rfl (any_of HT_.out (by kernel_rfl)) (fun _ _ _ h => h) (Or.inl ⟨by rfl, ?_⟩) ?_ ?_
        rotate_left
        ·intro w'
         go_simp
         with_reducible rfl
        rotate_left
        ·simp only [Act.put,sA_,s0_,s1_,i64_w,i32_w]
         rfl
        refine pure_ (i:=6) (N:=some 37) (v:=?_) (a':=?_) #[true,true,true,false,true,true,true,false,false,false,false] rfl rfl (any_of HT_.out (by kernel_rfl)) (fun _ _ _ h => h) (Or.inl ⟨by rfl, ?_⟩) ?_ ?_
        rotate_left
        ·intro w'
         go_simp
         with_reducible rfl
        rotate_left
        ·simp only [Act.put,sA_,s0_,s1_,i64_w,i32_w]
         rfl
        refine take_ (i:=3) (N:=some 34) (v:=?_) (a':=?_) #[true,true,true,true,true,true,true,false,false,false,false] rfl rfl (take_ofW HT_.out HW_.out (by kernel_rfl)) (fun _ _ _ h => h) (Or.inl ⟨by rfl, ?_⟩) hHeld ?_ ?_
        rotate_left
        ·rintro w' ⟨s0,s1,s2⟩
         go_simp
         with_reducible rfl
        rotate_left
        ·simp only [Act.put,sA_,s0_,s1_,i64_w,i32_w]
         rfl
        refine take_ (i:=7) (N:=some 38) (v:=?_) (a':=?_) #[true,true,true,true,true,true,true,true,false,false,false] rfl rfl (take_ofW HT_.out HW_.out (by kernel_rfl)) (fun _ _ _ h => h) (Or.inl ⟨by rfl, ?_⟩) hHeld ?_ ?_
        rotate_left
        ·rintro w' ⟨s0,s1,s2⟩
         go_simp
         with_reducible rfl
        rotate_left
        ·simp only [Act.put,sA_,s0_,s1_,i64_w,i32_w]
         rfl
        refine pure_ (i:=8) (N:=some 39) (v:=?_) (a':=?_) #[true,true,true,true,true,true,true,true,true,false,false] rfl rfl (any_of HT_.out (by kernel_rfl)) (fun _ _ _ h => h) (Or.inl ⟨by rfl, ?_⟩) ?_ ?_
        rotate_left
        ·intro w'
         go_simp
         with_reducible rfl
        rotate_left
        ·simp only [Act.put,sA_,s0_,s1_,i64_w,i32_w]
         rfl
        refine pure_ (i:=9) (N:=some 40) (v:=?_) (a':=?_) #[true,true,true,true,true,true,true,true,true,true,false] rfl rfl (any_of HT_.out (by kernel_rfl)) (fun _ _ _ h => h) (Or.inl ⟨by rfl, ?_⟩) ?_ ?_
        rotate_left
        ·intro w'
         go_simp
         with_reducible rfl
        rotate_left
        ·simp only [Act.put,sA_,s0_,s1_,i64_w,i32_w]
         rfl
        refine last_ (i:=10) (N:=none) #[true,true,true,true,true,true,true,true,true,true,true] rfl rfl (one_of HT_.out (by kernel_rfl)) (by decide) (fun K hK => ?_);refine skip_ (w1:=?_) (by rfl) rfl ?_ ?_
        rotate_left
        ·go_simp
         rfl
        refine hK.out _ _ ?_;clear hK K;refine done_ (done_of HT_.out (by kernel_rfl)) ?_
        try go_wp2
        go_roundg k1
        case measure => have:=HK1.out;omega
        case rel => exact ⟨(y564),(wrap64 (x26_1 + 1)),(by rfl),H',⟨by have:=HK1.out;omega⟩,⟨by exact HQ19.out⟩,⟨by repeat ((with_reducible first | exact HB.out | refine below_set ?_ GB13.out))⟩⟩
       ·rw [if_neg c12] at H
        exact absurd H (by simp)
      ·rw [if_neg c11] at H
       exact absurd H (by simp)
     ·rw [if_neg c10] at H
      exact absurd H (by simp)
    ·rw [if_neg c9] at H;have c9b0 : decide (x26_1 < (l0.length : Int)) = false:=decide_eq_false c9;clear c9;simp only [Option.some.injEq,Prod.mk.injEq] at H;obtain ⟨rfl,rfl⟩ := H
     go_wp2
     go_ret2
     exact ⟨_,by rfl,by exact HO_8.out,by exact HB.out⟩
 ·replace c5:=Bool.eq_false_iff.mpr c5;subst c5
  have H1 : (some (([] : List Int),false)) = some (r1,r2):=by rw [if_neg (show ¬ (false = true) by decide)] at H;exact H
  clear H;have H:=H1;clear H1;simp only [Option.some.injEq,Prod.mk.injEq] at H;obtain ⟨rfl,rfl⟩ := H
  go_enter Try.func22,Try.ntmps22
  go_wp2_with (((with_reducible refine gate_callee (f:=19) rfl ?_);refine goesL_ (some 15) rfl rfl Try.func19 (by kernel_rfl) rfl #[.slice A0 l0.length c0, .slice A1 l1.length c1, .slice A2 l2.length c2] rfl (by (try simp only [List.map_toArray,List.map_cons,List.map_nil]);rfl) ?_;(with_reducible refine (impl_IsValidLoading.calls k _ _ l0 _ _ l1 _ _ l2 false _ ?side1 ?side2 ?side3 ?side4 ?side5 ?side6 A4.out).mono ?_);(case side1 => repeat (exact HR0.out));(case side2 => exact HC0.out);(case side3 => repeat (exact HR1.out));(case side4 => exact HC1.out);(case side5 => repeat (exact HR2.out));(case side6 => exact HC2.out);rintro e w20 ⟨rfl,hb⟩;refine ⟨_,rfl, ?_⟩;have n0_:=am_ (below_step (by exact HB.out) hb);clear HB;have HB:=n0_;clear n0_;(try clear hb)))
  go_ret2
  exact ⟨_,by rfl,by exact Kd.R_nil _ _ _ _ _,by exact HB.out⟩

end Go.Proofs.Ythbibjfnmljpkaa.PFnTrainLoading
