-- Written by a program of this session, over the kit's print (wip/xprint.py)
import Derived.Test.YtempmebpbbbkmaaPFnWagonsx0
import Derived.Test.YtempmebpbbbkmaaPFnWagonsx8
import Derived.Test.YtempmebpbbbkmaaPFnWagonsx10
namespace Go.Proofs.Ytempmebpbbbkmaa.PFnWagons
open Go.RowKit Go.Proofs.YtempmebpbbbkmaaW.PrintWords Go.Proofs.YtempmebpbbbkmaaW.PrintLast Go.Proofs.YtempmebpbbbkmaaW.PrintMore
attribute [local go_sem] max2_int min2_int max_two min_two max_three min_three max_four min_four   -- for this text's walks alone
set_option linter.unusedVariables false
set_option linter.unusedSimpArgs false

/-! ### impl_LeftBehindContainers: function 14 -/
def impl_LeftBehindContainers.l0 : Nat → List (S33) → List ByteArray → List Int → Int → Int → Option (List ByteArray × Bool)
 | 0,_,_,_,_,_ => none
 | k + 1,x1,x8,x17,x18,x19 => if x19 < x18 then (if 0 ≤ x19 then (if x19 < (x17.length : Int) then (if (rd x17 x19) < 0 then (if x19 < (x1.length : Int) then (if x8.length < 8796093022208 then (impl_LeftBehindContainers.l0 k x1 (x8 ++ [(rd_T33 x1 x19).f0]) x17 x18 (wrap64 (x19 + 1))) else (none)) else (none)) else (impl_LeftBehindContainers.l0 k x1 x8 x17 x18 (wrap64 (x19 + 1)))) else (none)) else (none)) else (some (x8,true))
def impl_LeftBehindContainers.f (k : Nat) (l0 : List (S60)) (l1 : List (S33)) (l2 : List Int) : Option (List ByteArray × Bool):=(impl_IsValidLoading.f k l0 l1 l2).bind fun t557 => (if t557 = true then (impl_LeftBehindContainers.l0 k l1 (([] : List ByteArray)) l2 (l2.length : Int) 0) else (some (([] : List ByteArray),false)))
theorem impl_LeftBehindContainers.mono_l : ∀ k,(∀ y0 y1 y2 y3 y4,LeO (impl_LeftBehindContainers.l0 k y0 y1 y2 y3 y4) (impl_LeftBehindContainers.l0 (k + 1) y0 y1 y2 y3 y4))
 | 0 => fun _ _ _ _ _ r h => by simp [impl_LeftBehindContainers.l0] at h
 | k + 1 => by
  have ih0:=impl_LeftBehindContainers.mono_l k
  ·intro y0 y1 y2 y3 y4
   unfold impl_LeftBehindContainers.l0
   repeat' first
   | (with_reducible exact ih0 _ _ _ _ _)
   | (with_reducible exact impl_IsValidLoading.mono _ _ _ _)
   | (with_reducible exact LeO.refl _)
   | (with_reducible exact LeO.none _)
   | (with_reducible refine LeO.ite ?_ ?_)
   | (with_reducible refine LeO.bind ?_ (fun _ => ?_))
   | exact ih0 _ _ _ _ _
   | exact impl_IsValidLoading.mono _ _ _ _
   | exact LeO.none _
   | refine LeO.ite ?_ ?_
   | refine LeO.bind ?_ (fun _ => ?_)
theorem impl_LeftBehindContainers.mono : ∀ a0 a1 a2 k,LeO (impl_LeftBehindContainers.f k a0 a1 a2) (impl_LeftBehindContainers.f (k + 1) a0 a1 a2):=by
 intro a0 a1 a2 k
 have ih0:=impl_LeftBehindContainers.mono_l k
 unfold impl_LeftBehindContainers.f
 repeat' first
   | (with_reducible exact ih0 _ _ _ _ _)
   | (with_reducible exact impl_IsValidLoading.mono _ _ _ _)
   | (with_reducible exact LeO.refl _)
   | (with_reducible exact LeO.none _)
   | (with_reducible refine LeO.ite ?_ ?_)
   | (with_reducible refine LeO.bind ?_ (fun _ => ?_))
   | exact ih0 _ _ _ _ _
   | exact impl_IsValidLoading.mono _ _ _ _
   | exact LeO.none _
   | refine LeO.ite ?_ ?_
   | refine LeO.bind ?_ (fun _ => ?_)
set_option maxHeartbeats 8000000 in
set_option maxRecDepth 100000 in
theorem impl_LeftBehindContainers.calls (k : Nat) (A0 : Option Addr) (c0 : Nat) (l0 : List (S60)) (A1 : Option Addr) (c1 : Nat) (l1 : List (S33)) (A2 : Option Addr) (c2 : Nat) (l2 : List Int) (r1 : List ByteArray) (r2 : Bool) (w : World) (hr0 : Kd.C k60 w A0 l0.length l0) (hc0 : l0.length ≤ c0) (hr1 : Kd.C k33 w A1 l1.length l1) (hc1 : l1.length ≤ c1) (hr2 : Kd.C (Kd.int .i64) w A2 l2.length l2) (hc2 : l2.length ≤ c2) (h : impl_LeftBehindContainers.f k l0 l1 l2 = some (r1,r2)) :
  Calls Try.prog 14 #[.slice A0 l0.length c0, .slice A1 l1.length c1, .slice A2 l2.length c2] w fun e w' => ∃ v0_ : Value,e = .returned (.tuple #[v0_, .bool r2]) ∧ Kd.R Kd.string 9 w' w.heap.size (fun _ => True) v0_ r1 ∧ Below w.heap.size w w':=by
 have HR0:=Aside0.mk hr0
 have HC0:=Aside0.mk hc0
 clear hr0 hc0
 have HR1:=Aside0.mk hr1
 have HC1:=Aside0.mk hc1
 clear hr1 hc1
 have HR2:=Aside0.mk hr2
 have HC2:=Aside0.mk hc2
 clear hr2 hc2
 have HB:=Aside0.mk (Below.refl w.heap.size w)
 have H : ((impl_IsValidLoading.f k l0 l1 l2).bind fun t557 => (if t557 = true then (impl_LeftBehindContainers.l0 k l1 (([] : List ByteArray)) l2 (l2.length : Int) 0) else (some (([] : List ByteArray),false)))) = some (r1,r2):=h
 clear h
 replace H:=Option.bind_eq_some_iff.mp H
 obtain ⟨t557,A40,H⟩ := H
 replace H : (if t557 = true then (impl_LeftBehindContainers.l0 k l1 (([] : List ByteArray)) l2 (l2.length : Int) 0) else (some (([] : List ByteArray),false))) = some (r1,r2):=H
 have A4:=Aside0.mk A40
 clear A40
 by_cases c5 : t557 = true
 ·subst c5
  have H1 : (impl_LeftBehindContainers.l0 k l1 (([] : List ByteArray)) l2 (l2.length : Int) 0) = some (r1,r2):=by rw [if_pos rfl] at H;exact H
  clear H
  have H:=H1
  clear H1
  obtain ⟨y558,hy558⟩ : ∃ y_ : List ByteArray,y_ = (([] : List ByteArray)):=⟨_,rfl⟩
  replace H : (impl_LeftBehindContainers.l0 k l1 y558 l2 (l2.length : Int) 0) = some (r1,r2):=by (rw [hy558];with_reducible exact H)
  have Ny558:=Aside0.mk hy558
  clear hy558
  have H':=Aside0.mk H
  clear H
  go_enter Try.func14,Try.ntmps14
  go_wp2_with (first | ((with_reducible refine gate_callee (f:=9) rfl ?_);refine goesL_ (some 14) rfl rfl Try.func9 (by kernel_rfl) rfl #[.slice A0 l0.length c0, .slice A1 l1.length c1, .slice A2 l2.length c2] rfl (by (try simp only [List.map_toArray,List.map_cons,List.map_nil]);rfl) ?_;(with_reducible refine (impl_IsValidLoading.calls k _ _ l0 _ _ l1 _ _ l2 true _ ?side1 ?side2 ?side3 ?side4 ?side5 ?side6 A4.out).mono ?_);(case side1 => repeat (exact HR0.out));(case side2 => exact HC0.out);(case side3 => repeat (exact HR1.out));(case side4 => exact HC1.out);(case side5 => repeat (exact HR2.out));(case side6 => exact HC2.out);rintro e w6 ⟨rfl,hb⟩;refine ⟨_,rfl, ?_⟩;have n0_:=Aside0.mk (below_step (by exact HB.out) hb);clear HB;have HB:=n0_;clear n0_;(try clear hb)) | ((with_reducible refine gate_dst (N:=16) rfl ?_);refine Kd.R_lit Kd.string _ 9 ?hg (N:=16) ?hd (xs:=([] : List ByteArray)) (inner := []) (ok:=fun _ => True) (okp:=fun _ => True) ?hr ?hp (fun _ hk => hk) trivial (Below.refl _ _) (Nat.le_refl _) (by simp) ?_;(case hd => rfl);(case hg => rfl);(case hr => (go_simp;done));(case hp => exact (Reps.none _ _));intro v559 w7 ho8 hb hg_ hnew_;clear hg_ hnew_;(rw [← Ny558.out] at ho8);have n0_:=Aside0.mk (Kd.R_lower ho8 (below_size (by exact HB.out)));have n1_:=Aside0.mk (below_step (by exact HB.out) hb);clear HB;have HO560:=n0_;have HB:=n1_;clear n0_ n1_;clear hb ho8))
  (skip)
  go_loopg [8,19] k (fun kq v8 v19 w' => ∃ (x8_1 : List ByteArray) (x19_1 : Int),v19 = .int .i64 x19_1 ∧ Aside0 (impl_LeftBehindContainers.l0 kq l1 x8_1 l2 (l2.length : Int) x19_1 = some (r1,r2)) ∧ Aside0 (kq ≤ k) ∧ Aside0 (Kd.R Kd.string 9 w' w.heap.size (fun _ => True) v8 x8_1) ∧ Aside0 (Below w.heap.size w w'))
  case atStart => exact ⟨(y558),(0),(by rfl),H',⟨Nat.le_refl _⟩,⟨by exact HO560.out⟩,⟨by exact HB.out⟩⟩
  case round =>
   clear H'
   try clear c1
   try clear c2
   try clear p2
   try clear c5
   obtain ⟨x8_1,x19_1,rfl,HA,HK1,HO_8,HB⟩ := hrel
   cases gk with
   | zero => exact absurd HA.out (by simp [impl_LeftBehindContainers.l0])
   | succ k1 =>
    have H:=HA.out
    clear HA
    simp only [impl_LeftBehindContainers.l0] at H
    by_cases c9 : x19_1 < (l2.length : Int)
    ·rw [if_pos c9] at H
     have c9b0 : decide (x19_1 < (l2.length : Int)) = true:=decide_eq_true c9
     clear c9
     by_cases c10 : 0 ≤ x19_1
     ·rw [if_pos c10] at H
      have c10b0 : decide (0 ≤ x19_1) = true:=decide_eq_true c10
      clear c10
      by_cases c11 : x19_1 < (l2.length : Int)
      ·rw [if_pos c11] at H
       have c11b0 : decide (x19_1 < (l2.length : Int)) = true:=decide_eq_true c11
       clear c11
       by_cases c12 : (rd l2 x19_1) < 0
       ·rw [if_pos c12] at H
        have c12b0 : decide ((rd l2 x19_1) < 0) = true:=decide_eq_true c12
        clear c12
        by_cases c13 : x19_1 < (l1.length : Int)
        ·rw [if_pos c13] at H
         have c13b0 : decide (x19_1 < (l1.length : Int)) = true:=decide_eq_true c13
         clear c13
         by_cases c14 : x8_1.length < 8796093022208
         ·rw [if_pos c14] at H
          have LMc14:=Aside0.mk c14
          clear c14
          obtain ⟨y563,hy563⟩ : ∃ y_ : List ByteArray,y_ = (x8_1 ++ [(rd_T33 l1 x19_1).f0]):=⟨_,rfl⟩
          replace H : (impl_LeftBehindContainers.l0 k1 l1 y563 l2 (l2.length : Int) (wrap64 (x19_1 + 1))) = some (r1,r2):=by (rw [hy563];with_reducible exact H)
          have Ny563:=Aside0.mk hy563
          clear hy563
          have H':=Aside0.mk H
          clear H
          have p561 : 0 ≤ (x19_1 : Int):=of_decide_eq_true (by (with_reducible assumption))
          have q561 : x19_1 < (l2.length : Int):=of_decide_eq_true (by (with_reducible assumption))
          obtain ⟨ad561,e561,hx561_0⟩ := Kd.at_int HR2.out x19_1 p561 q561
          cases e561
          replace hx561_0:=(HB.out.cell (World.block_lt_of_cell? w _ hx561_0)).trans hx561_0
          replace p561:=eq_true p561
          replace q561:=eq_true q561
          have p562 : 0 ≤ (x19_1 : Int):=of_decide_eq_true (by (with_reducible assumption))
          have q562 : x19_1 < (l1.length : Int):=of_decide_eq_true (by (with_reducible assumption))
          obtain ⟨ad562,e562,hx562_0,hx562_1,hx562_2,hx562_3,hx562_4⟩ := at_T33 HR1.out x19_1 p562 q562
          cases e562
          replace hx562_0:=(HB.out.cell (World.block_lt_of_cell? w _ hx562_0)).trans hx562_0
          replace hx562_1:=(HB.out.cell (World.block_lt_of_cell? w _ hx562_1)).trans hx562_1
          replace hx562_2:=(HB.out.cell (World.block_lt_of_cell? w _ hx562_2)).trans hx562_2
          replace hx562_3:=(HB.out.cell (World.block_lt_of_cell? w _ hx562_3)).trans hx562_3
          replace hx562_4:=(HB.out.cell (World.block_lt_of_cell? w _ hx562_4)).trans hx562_4
          replace p562:=eq_true p562
          replace q562:=eq_true q562
          go_wp2_with (((with_reducible refine gate_builtin (b := .append) (xs:=#[.tmp 26, .tmp 32]) rfl ?_);at_builtin;refine Kd.R_append Kd.string (w0:=w) w.heap.size rfl (.tmp 26) (.tmp 32) 39 9 (.string ⟨#[]⟩) 16 rfl Try.underlying39 info9 rfl (by decide) (by omega) u8 x8_1 ((rd_T33 l1 x19_1).f0) [.string ((rd_T33 l1 x19_1).f0)] (fun _ => True) (fun _ => False) rfl rfl ?aP (fun _ hk => hk.elim) ?aF ?aO ?aB ?aS ?aL ?_;(case aP => exact rfl);(case aB => exact (by exact HB.out));(case aF => exact (fun _ _ => trivial));(case aO => exact (by exact HO_8.out));(case aS => exact (below_size (by exact HB.out)));(case aL => have:=LMc14.out;omega);intro v564 w15 ho hb hg hat;rw [← Ny563.out] at ho;have n0_:=Aside0.mk (hb);have n1_:=Aside0.mk (ho);clear HB;clear HO_8;have HB:=n0_;have HO565:=n1_;clear n0_ n1_;clear ho hb hg hat))
          go_roundg k1
          case measure => have:=HK1.out;omega
          case rel => exact ⟨(y563),(wrap64 (x19_1 + 1)),(by rfl),H',⟨by have:=HK1.out;omega⟩,⟨by exact HO565.out⟩,⟨by exact HB.out⟩⟩
         ·rw [if_neg c14] at H
          exact absurd H (by simp)
        ·rw [if_neg c13] at H
         exact absurd H (by simp)
       ·rw [if_neg c12] at H
        have c12b0 : decide ((rd l2 x19_1) < 0) = false:=decide_eq_false c12
        clear c12
        have H':=Aside0.mk H
        clear H
        have p561 : 0 ≤ (x19_1 : Int):=of_decide_eq_true (by (with_reducible assumption))
        have q561 : x19_1 < (l2.length : Int):=of_decide_eq_true (by (with_reducible assumption))
        obtain ⟨ad561,e561,hx561_0⟩ := Kd.at_int HR2.out x19_1 p561 q561
        cases e561
        replace hx561_0:=(HB.out.cell (World.block_lt_of_cell? w _ hx561_0)).trans hx561_0
        replace p561:=eq_true p561
        replace q561:=eq_true q561
        go_wp2
        go_roundg k1
        case measure => have:=HK1.out;omega
        case rel => exact ⟨(x8_1),(wrap64 (x19_1 + 1)),(by rfl),H',⟨by have:=HK1.out;omega⟩,⟨by exact HO_8.out⟩,⟨by exact HB.out⟩⟩
      ·rw [if_neg c11] at H
       exact absurd H (by simp)
     ·rw [if_neg c10] at H
      exact absurd H (by simp)
    ·rw [if_neg c9] at H
     have c9b0 : decide (x19_1 < (l2.length : Int)) = false:=decide_eq_false c9
     clear c9
     simp only [Option.some.injEq,Prod.mk.injEq] at H
     obtain ⟨rfl,rfl⟩ := H
     go_wp2
     go_ret2
     exact ⟨_,by rfl,by exact HO_8.out,by exact HB.out⟩
 ·replace c5:=Bool.eq_false_iff.mpr c5
  subst c5
  have H1 : (some (([] : List ByteArray),false)) = some (r1,r2):=by rw [if_neg (show ¬ (false = true) by decide)] at H;exact H
  clear H
  have H:=H1
  clear H1
  simp only [Option.some.injEq,Prod.mk.injEq] at H
  obtain ⟨rfl,rfl⟩ := H
  go_enter Try.func14,Try.ntmps14
  go_wp2_with (((with_reducible refine gate_callee (f:=9) rfl ?_);refine goesL_ (some 14) rfl rfl Try.func9 (by kernel_rfl) rfl #[.slice A0 l0.length c0, .slice A1 l1.length c1, .slice A2 l2.length c2] rfl (by (try simp only [List.map_toArray,List.map_cons,List.map_nil]);rfl) ?_;(with_reducible refine (impl_IsValidLoading.calls k _ _ l0 _ _ l1 _ _ l2 false _ ?side1 ?side2 ?side3 ?side4 ?side5 ?side6 A4.out).mono ?_);(case side1 => repeat (exact HR0.out));(case side2 => exact HC0.out);(case side3 => repeat (exact HR1.out));(case side4 => exact HC1.out);(case side5 => repeat (exact HR2.out));(case side6 => exact HC2.out);rintro e w16 ⟨rfl,hb⟩;refine ⟨_,rfl, ?_⟩;have n0_:=Aside0.mk (below_step (by exact HB.out) hb);clear HB;have HB:=n0_;clear n0_;(try clear hb)))
  go_ret2
  exact ⟨_,by rfl,by exact Kd.R_nil _ _ _ _ _,by exact HB.out⟩

/-! ### spec_LeftBehindContainers: function 15 -/
def spec_LeftBehindContainers.l0 : Nat → List (S33) → List Int → List ByteArray → Int → Option (List ByteArray × Bool)
 | 0,_,_,_,_ => none
 | k + 1,x1,x2,x8,x9 => if x9 < (x1.length : Int) then (if 0 ≤ x9 then (if x9 < (x2.length : Int) then (if (rd x2 x9) < 0 then (if x8.length < 8796093022208 then (spec_LeftBehindContainers.l0 k x1 x2 (x8 ++ [(rd_T33 x1 x9).f0]) (wrap64 (x9 + 1))) else (none)) else (spec_LeftBehindContainers.l0 k x1 x2 x8 (wrap64 (x9 + 1)))) else (none)) else (none)) else (some (x8,true))
def spec_LeftBehindContainers.f (k : Nat) (l0 : List (S60)) (l1 : List (S33)) (l2 : List Int) : Option (List ByteArray × Bool):=(some (([] : List ByteArray) : List ByteArray)).bind fun y566 => ((spec_l19Good.f k l0 l1 l2).bind fun t569 => (if t569 = true then (spec_LeftBehindContainers.l0 k l1 l2 y566 0) else (some (y566,false))))
theorem spec_LeftBehindContainers.mono_l : ∀ k,(∀ y0 y1 y2 y3,LeO (spec_LeftBehindContainers.l0 k y0 y1 y2 y3) (spec_LeftBehindContainers.l0 (k + 1) y0 y1 y2 y3))
 | 0 => fun _ _ _ _ r h => by simp [spec_LeftBehindContainers.l0] at h
 | k + 1 => by
  have ih0:=spec_LeftBehindContainers.mono_l k
  ·intro y0 y1 y2 y3
   unfold spec_LeftBehindContainers.l0
   repeat' first
   | (with_reducible exact ih0 _ _ _ _)
   | (with_reducible exact spec_l19Good.mono _ _ _ _)
   | (with_reducible exact LeO.refl _)
   | (with_reducible exact LeO.none _)
   | (with_reducible refine LeO.ite ?_ ?_)
   | (with_reducible refine LeO.bind ?_ (fun _ => ?_))
   | exact ih0 _ _ _ _
   | exact spec_l19Good.mono _ _ _ _
   | exact LeO.none _
   | refine LeO.ite ?_ ?_
   | refine LeO.bind ?_ (fun _ => ?_)
theorem spec_LeftBehindContainers.mono : ∀ a0 a1 a2 k,LeO (spec_LeftBehindContainers.f k a0 a1 a2) (spec_LeftBehindContainers.f (k + 1) a0 a1 a2):=by
 intro a0 a1 a2 k
 have ih0:=spec_LeftBehindContainers.mono_l k
 unfold spec_LeftBehindContainers.f
 repeat' first
   | (with_reducible exact ih0 _ _ _ _)
   | (with_reducible exact spec_l19Good.mono _ _ _ _)
   | (with_reducible exact LeO.refl _)
   | (with_reducible exact LeO.none _)
   | (with_reducible refine LeO.ite ?_ ?_)
   | (with_reducible refine LeO.bind ?_ (fun _ => ?_))
   | exact ih0 _ _ _ _
   | exact spec_l19Good.mono _ _ _ _
   | exact LeO.none _
   | refine LeO.ite ?_ ?_
   | refine LeO.bind ?_ (fun _ => ?_)
set_option maxHeartbeats 8000000 in
set_option maxRecDepth 100000 in
theorem spec_LeftBehindContainers.calls (k : Nat) (A0 : Option Addr) (c0 : Nat) (l0 : List (S60)) (A1 : Option Addr) (c1 : Nat) (l1 : List (S33)) (A2 : Option Addr) (c2 : Nat) (l2 : List Int) (r1 : List ByteArray) (r2 : Bool) (w : World) (hr0 : Kd.C k60 w A0 l0.length l0) (hc0 : l0.length ≤ c0) (hr1 : Kd.C k33 w A1 l1.length l1) (hc1 : l1.length ≤ c1) (hr2 : Kd.C (Kd.int .i64) w A2 l2.length l2) (hc2 : l2.length ≤ c2) (h : spec_LeftBehindContainers.f k l0 l1 l2 = some (r1,r2)) :
  Calls Try.prog 15 #[.slice A0 l0.length c0, .slice A1 l1.length c1, .slice A2 l2.length c2] w fun e w' => ∃ v0_ : Value,e = .returned (.tuple #[v0_, .bool r2]) ∧ Kd.R Kd.string 9 w' w.heap.size (fun _ => True) v0_ r1 ∧ Below w.heap.size w w':=by
 have HR0:=Aside0.mk hr0
 have HC0:=Aside0.mk hc0
 clear hr0 hc0
 have HR1:=Aside0.mk hr1
 have HC1:=Aside0.mk hc1
 clear hr1 hc1
 have HR2:=Aside0.mk hr2
 have HC2:=Aside0.mk hc2
 clear hr2 hc2
 have HB:=Aside0.mk (Below.refl w.heap.size w)
 have H : ((some (([] : List ByteArray) : List ByteArray)).bind fun y566 => ((spec_l19Good.f k l0 l1 l2).bind fun t569 => (if t569 = true then (spec_LeftBehindContainers.l0 k l1 l2 y566 0) else (some (y566,false))))) = some (r1,r2):=h
 clear h
 obtain ⟨y566,hy566⟩ : ∃ y_ : List ByteArray,y_ = (([] : List ByteArray)):=⟨_,rfl⟩
 replace H : ((spec_l19Good.f k l0 l1 l2).bind fun t569 => (if t569 = true then (spec_LeftBehindContainers.l0 k l1 l2 y566 0) else (some (y566,false)))) = some (r1,r2):=by (have H2_:=(Option.bind_some _ _).symm.trans H;rw [hy566];with_reducible exact H2_)
 have Ny566:=Aside0.mk hy566
 clear hy566
 replace H:=Option.bind_eq_some_iff.mp H
 obtain ⟨t569,A40,H⟩ := H
 replace H : (if t569 = true then (spec_LeftBehindContainers.l0 k l1 l2 y566 0) else (some (y566,false))) = some (r1,r2):=H
 have A4:=Aside0.mk A40
 clear A40
 by_cases c5 : t569 = true
 ·subst c5
  have H1 : (spec_LeftBehindContainers.l0 k l1 l2 y566 0) = some (r1,r2):=by rw [if_pos rfl] at H;exact H
  clear H
  have H:=H1
  clear H1
  have H':=Aside0.mk H
  clear H
  go_enter Try.func15,Try.ntmps15
  go_wp2_with (first | ((with_reducible refine gate_dst (N:=10) rfl ?_);refine Kd.R_lit Kd.string _ 9 ?hg (N:=10) ?hd (xs:=([] : List ByteArray)) (inner := []) (ok:=fun _ => True) (okp:=fun _ => True) ?hr ?hp (fun _ hk => hk) trivial (Below.refl _ _) (Nat.le_refl _) (by simp) ?_;(case hd => rfl);(case hg => rfl);(case hr => (go_simp;done));(case hp => exact (Reps.none _ _));intro v567 w6 ho7 hb hg_ hnew_;clear hg_ hnew_;(rw [← Ny566.out] at ho7);have n0_:=Aside0.mk (Kd.R_lower ho7 (below_size (by exact HB.out)));have n1_:=Aside0.mk (below_step (by exact HB.out) hb);clear HB;have HO568:=n0_;have HB:=n1_;clear n0_ n1_;clear hb ho7) | ((with_reducible refine gate_callee (f:=24) rfl ?_);refine goesL_ (some 14) rfl rfl Try.func24 (by kernel_rfl) rfl #[.slice A0 l0.length c0, .slice A1 l1.length c1, .slice A2 l2.length c2] rfl (by (try simp only [List.map_toArray,List.map_cons,List.map_nil]);rfl) ?_;(with_reducible refine (spec_l19Good.calls k _ _ l0 _ _ l1 _ _ l2 true _ ?side1 ?side2 ?side3 ?side4 ?side5 ?side6 A4.out).mono ?_);(case side1 => repeat (exact (Kd.C_below HR0.out HB.out)));(case side2 => exact HC0.out);(case side3 => repeat (exact (Kd.C_below HR1.out HB.out)));(case side4 => exact HC1.out);(case side5 => repeat (exact (Kd.C_below HR2.out HB.out)));(case side6 => exact HC2.out);rintro e w8 ⟨rfl,hb⟩;refine ⟨_,rfl, ?_⟩;have n0_:=Aside0.mk (Kd.R_below (by exact HO568.out) hb);have n1_:=Aside0.mk (below_step (by exact HB.out) hb);clear HO568;clear HB;have HO568:=n0_;have HB:=n1_;clear n0_ n1_;(try clear hb)))
  (skip)
  go_loopg [8,9] k (fun kq v8 v9 w' => ∃ (x8_1 : List ByteArray) (x9_1 : Int),v9 = .int .i64 x9_1 ∧ Aside0 (spec_LeftBehindContainers.l0 kq l1 l2 x8_1 x9_1 = some (r1,r2)) ∧ Aside0 (kq ≤ k) ∧ Aside0 (Kd.R Kd.string 9 w' w.heap.size (fun _ => True) v8 x8_1) ∧ Aside0 (Below w.heap.size w w'))
  case atStart => exact ⟨(y566),(0),(by rfl),H',⟨Nat.le_refl _⟩,⟨by exact HO568.out⟩,⟨by exact HB.out⟩⟩
  case round =>
   clear H'
   try clear c1
   try clear c2
   try clear p2
   try clear c5
   obtain ⟨x8_1,x9_1,rfl,HA,HK1,HO_8,HB⟩ := hrel
   cases gk with
   | zero => exact absurd HA.out (by simp [spec_LeftBehindContainers.l0])
   | succ k1 =>
    have H:=HA.out
    clear HA
    simp only [spec_LeftBehindContainers.l0] at H
    by_cases c9 : x9_1 < (l1.length : Int)
    ·rw [if_pos c9] at H
     have c9b0 : decide (x9_1 < (l1.length : Int)) = true:=decide_eq_true c9
     clear c9
     by_cases c10 : 0 ≤ x9_1
     ·rw [if_pos c10] at H
      have c10b0 : decide (0 ≤ x9_1) = true:=decide_eq_true c10
      clear c10
      by_cases c11 : x9_1 < (l2.length : Int)
      ·rw [if_pos c11] at H
       have c11b0 : decide (x9_1 < (l2.length : Int)) = true:=decide_eq_true c11
       clear c11
       by_cases c12 : (rd l2 x9_1) < 0
       ·rw [if_pos c12] at H
        have c12b0 : decide ((rd l2 x9_1) < 0) = true:=decide_eq_true c12
        clear c12
        by_cases c13 : x8_1.length < 8796093022208
        ·rw [if_pos c13] at H
         have LMc13:=Aside0.mk c13
         clear c13
         obtain ⟨y572,hy572⟩ : ∃ y_ : List ByteArray,y_ = (x8_1 ++ [(rd_T33 l1 x9_1).f0]):=⟨_,rfl⟩
         replace H : (spec_LeftBehindContainers.l0 k1 l1 l2 y572 (wrap64 (x9_1 + 1))) = some (r1,r2):=by (rw [hy572];with_reducible exact H)
         have Ny572:=Aside0.mk hy572
         clear hy572
         have H':=Aside0.mk H
         clear H
         have p570 : 0 ≤ (x9_1 : Int):=of_decide_eq_true (by (with_reducible assumption))
         have q570 : x9_1 < (l2.length : Int):=of_decide_eq_true (by (with_reducible assumption))
         obtain ⟨ad570,e570,hx570_0⟩ := Kd.at_int HR2.out x9_1 p570 q570
         cases e570
         replace hx570_0:=(HB.out.cell (World.block_lt_of_cell? w _ hx570_0)).trans hx570_0
         replace p570:=eq_true p570
         replace q570:=eq_true q570
         have p571 : 0 ≤ (x9_1 : Int):=of_decide_eq_true (by (with_reducible assumption))
         have q571 : x9_1 < (l1.length : Int):=of_decide_eq_true (by (with_reducible assumption))
         obtain ⟨ad571,e571,hx571_0,hx571_1,hx571_2,hx571_3,hx571_4⟩ := at_T33 HR1.out x9_1 p571 q571
         cases e571
         replace hx571_0:=(HB.out.cell (World.block_lt_of_cell? w _ hx571_0)).trans hx571_0
         replace hx571_1:=(HB.out.cell (World.block_lt_of_cell? w _ hx571_1)).trans hx571_1
         replace hx571_2:=(HB.out.cell (World.block_lt_of_cell? w _ hx571_2)).trans hx571_2
         replace hx571_3:=(HB.out.cell (World.block_lt_of_cell? w _ hx571_3)).trans hx571_3
         replace hx571_4:=(HB.out.cell (World.block_lt_of_cell? w _ hx571_4)).trans hx571_4
         replace p571:=eq_true p571
         replace q571:=eq_true q571
         go_wp2_with (((with_reducible refine gate_builtin (b := .append) (xs:=#[.tmp 28, .tmp 34]) rfl ?_);at_builtin;refine Kd.R_append Kd.string (w0:=w) w.heap.size rfl (.tmp 28) (.tmp 34) 39 9 (.string ⟨#[]⟩) 16 rfl Try.underlying39 info9 rfl (by decide) (by omega) u8 x8_1 ((rd_T33 l1 x9_1).f0) [.string ((rd_T33 l1 x9_1).f0)] (fun _ => True) (fun _ => False) rfl rfl ?aP (fun _ hk => hk.elim) ?aF ?aO ?aB ?aS ?aL ?_;(case aP => exact rfl);(case aB => exact (by exact HB.out));(case aF => exact (fun _ _ => trivial));(case aO => exact (by exact HO_8.out));(case aS => exact (below_size (by exact HB.out)));(case aL => have:=LMc13.out;omega);intro v573 w14 ho hb hg hat;rw [← Ny572.out] at ho;have n0_:=Aside0.mk (hb);have n1_:=Aside0.mk (ho);clear HB;clear HO_8;have HB:=n0_;have HO574:=n1_;clear n0_ n1_;clear ho hb hg hat))
         go_roundg k1
         case measure => have:=HK1.out;omega
         case rel => exact ⟨(y572),(wrap64 (x9_1 + 1)),(by rfl),H',⟨by have:=HK1.out;omega⟩,⟨by exact HO574.out⟩,⟨by exact HB.out⟩⟩
        ·rw [if_neg c13] at H
         exact absurd H (by simp)
       ·rw [if_neg c12] at H
        have c12b0 : decide ((rd l2 x9_1) < 0) = false:=decide_eq_false c12
        clear c12
        have H':=Aside0.mk H
        clear H
        have p570 : 0 ≤ (x9_1 : Int):=of_decide_eq_true (by (with_reducible assumption))
        have q570 : x9_1 < (l2.length : Int):=of_decide_eq_true (by (with_reducible assumption))
        obtain ⟨ad570,e570,hx570_0⟩ := Kd.at_int HR2.out x9_1 p570 q570
        cases e570
        replace hx570_0:=(HB.out.cell (World.block_lt_of_cell? w _ hx570_0)).trans hx570_0
        replace p570:=eq_true p570
        replace q570:=eq_true q570
        go_wp2
        go_roundg k1
        case measure => have:=HK1.out;omega
        case rel => exact ⟨(x8_1),(wrap64 (x9_1 + 1)),(by rfl),H',⟨by have:=HK1.out;omega⟩,⟨by exact HO_8.out⟩,⟨by exact HB.out⟩⟩
      ·rw [if_neg c11] at H
       exact absurd H (by simp)
     ·rw [if_neg c10] at H
      exact absurd H (by simp)
    ·rw [if_neg c9] at H
     have c9b0 : decide (x9_1 < (l1.length : Int)) = false:=decide_eq_false c9
     clear c9
     simp only [Option.some.injEq,Prod.mk.injEq] at H
     obtain ⟨rfl,rfl⟩ := H
     go_wp2
     go_ret2
     exact ⟨_,by rfl,by exact HO_8.out,by exact HB.out⟩
 ·replace c5:=Bool.eq_false_iff.mpr c5
  subst c5
  have H1 : (some (y566,false)) = some (r1,r2):=by rw [if_neg (show ¬ (false = true) by decide)] at H;exact H
  clear H
  have H:=H1
  clear H1
  simp only [Option.some.injEq,Prod.mk.injEq] at H
  obtain ⟨rfl,rfl⟩ := H
  go_enter Try.func15,Try.ntmps15
  go_wp2_with (first | ((with_reducible refine gate_dst (N:=10) rfl ?_);refine Kd.R_lit Kd.string _ 9 ?hg (N:=10) ?hd (xs:=([] : List ByteArray)) (inner := []) (ok:=fun _ => True) (okp:=fun _ => True) ?hr ?hp (fun _ hk => hk) trivial (Below.refl _ _) (Nat.le_refl _) (by simp) ?_;(case hd => rfl);(case hg => rfl);(case hr => (go_simp;done));(case hp => exact (Reps.none _ _));intro v567 w15 ho16 hb hg_ hnew_;clear hg_ hnew_;(rw [← Ny566.out] at ho16);have n0_:=Aside0.mk (Kd.R_lower ho16 (below_size (by exact HB.out)));have n1_:=Aside0.mk (below_step (by exact HB.out) hb);clear HB;have HO568:=n0_;have HB:=n1_;clear n0_ n1_;clear hb ho16) | ((with_reducible refine gate_callee (f:=24) rfl ?_);refine goesL_ (some 14) rfl rfl Try.func24 (by kernel_rfl) rfl #[.slice A0 l0.length c0, .slice A1 l1.length c1, .slice A2 l2.length c2] rfl (by (try simp only [List.map_toArray,List.map_cons,List.map_nil]);rfl) ?_;(with_reducible refine (spec_l19Good.calls k _ _ l0 _ _ l1 _ _ l2 false _ ?side1 ?side2 ?side3 ?side4 ?side5 ?side6 A4.out).mono ?_);(case side1 => repeat (exact (Kd.C_below HR0.out HB.out)));(case side2 => exact HC0.out);(case side3 => repeat (exact (Kd.C_below HR1.out HB.out)));(case side4 => exact HC1.out);(case side5 => repeat (exact (Kd.C_below HR2.out HB.out)));(case side6 => exact HC2.out);rintro e w17 ⟨rfl,hb⟩;refine ⟨_,rfl, ?_⟩;have n0_:=Aside0.mk (Kd.R_below (by exact HO568.out) hb);have n1_:=Aside0.mk (below_step (by exact HB.out) hb);clear HO568;clear HB;have HO568:=n0_;have HB:=n1_;clear n0_ n1_;(try clear hb)))
  go_ret2
  exact ⟨_,by rfl,by exact HO568.out,by exact HB.out⟩

/-! ### laws_rTexts: function 16 -/
def laws_rTexts.l0 : Nat → List ByteArray → List ByteArray → Int → Option (Bool)
 | 0,_,_,_ => none
 | k + 1,x0,x1,x5 => if x5 < (x0.length : Int) then (if 0 ≤ x5 then (if x5 < (x1.length : Int) then (if (rdOf ByteArray.empty x0 x5).toList = (rdOf ByteArray.empty x1 x5).toList then (laws_rTexts.l0 k x0 x1 (wrap64 (x5 + 1))) else (some false)) else (none)) else (none)) else (some true)
def laws_rTexts.f (k : Nat) (l0 : List ByteArray) (l1 : List ByteArray) : Option (Bool):=if (l0.length : Int) = (l1.length : Int) then (laws_rTexts.l0 k l0 l1 0) else (some false)
theorem laws_rTexts.mono_l : ∀ k,(∀ y0 y1 y2,LeO (laws_rTexts.l0 k y0 y1 y2) (laws_rTexts.l0 (k + 1) y0 y1 y2))
 | 0 => fun _ _ _ r h => by simp [laws_rTexts.l0] at h
 | k + 1 => by
  have ih0:=laws_rTexts.mono_l k
  ·intro y0 y1 y2
   unfold laws_rTexts.l0
   repeat' first
   | (with_reducible exact ih0 _ _ _)
   | (with_reducible exact LeO.refl _)
   | (with_reducible exact LeO.none _)
   | (with_reducible refine LeO.ite ?_ ?_)
   | (with_reducible refine LeO.bind ?_ (fun _ => ?_))
   | exact ih0 _ _ _
   | exact LeO.none _
   | refine LeO.ite ?_ ?_
   | refine LeO.bind ?_ (fun _ => ?_)
theorem laws_rTexts.mono : ∀ a0 a1 k,LeO (laws_rTexts.f k a0 a1) (laws_rTexts.f (k + 1) a0 a1):=by
 intro a0 a1 k
 have ih0:=laws_rTexts.mono_l k
 unfold laws_rTexts.f
 repeat' first
   | (with_reducible exact ih0 _ _ _)
   | (with_reducible exact LeO.refl _)
   | (with_reducible exact LeO.none _)
   | (with_reducible refine LeO.ite ?_ ?_)
   | (with_reducible refine LeO.bind ?_ (fun _ => ?_))
   | exact ih0 _ _ _
   | exact LeO.none _
   | refine LeO.ite ?_ ?_
   | refine LeO.bind ?_ (fun _ => ?_)
set_option maxHeartbeats 8000000 in
set_option maxRecDepth 100000 in
theorem laws_rTexts.calls (k : Nat) (A0 : Option Addr) (c0 : Nat) (l0 : List ByteArray) (A1 : Option Addr) (c1 : Nat) (l1 : List ByteArray) (r : Bool) (w : World) (hr0 : Kd.C Kd.string w A0 l0.length l0) (hc0 : l0.length ≤ c0) (hr1 : Kd.C Kd.string w A1 l1.length l1) (hc1 : l1.length ≤ c1) (h : laws_rTexts.f k l0 l1 = some r) :
  Calls Try.prog 16 #[.slice A0 l0.length c0, .slice A1 l1.length c1] w fun e w' => e = .returned (.bool r) ∧ Drawn0 w w':=by
 have HR0:=Aside0.mk hr0
 have HC0:=Aside0.mk hc0
 clear hr0 hc0
 have HR1:=Aside0.mk hr1
 have HC1:=Aside0.mk hc1
 clear hr1 hc1
 have H : (if (l0.length : Int) = (l1.length : Int) then (laws_rTexts.l0 k l0 l1 0) else (some false)) = some r:=h
 clear h
 by_cases c3 : (l0.length : Int) = (l1.length : Int)
 ·rw [if_pos c3] at H
  have c3b0 : ((l0.length : Int) == (l1.length : Int)) = true:=beq_iff_eq.mpr c3
  have c3b1 : ((l0.length : Int) != (l1.length : Int)) = false:=bne_eq_false_iff_eq.mpr c3
  have c3b2 : (l0.length == l1.length) = true:=by (simp at c3 ⊢;omega)
  clear c3
  have H':=Aside0.mk H
  clear H
  go_enter Try.func16,Try.ntmps16
  go_wp2
  repeat (go_quiet (fail);try go_wp2)
  (skip)
  go_loopg [5] k (fun kq v5 w' => ∃ (x5_1 : Int),v5 = .int .i64 x5_1 ∧ Aside0 (laws_rTexts.l0 kq l0 l1 x5_1 = some r) ∧ Aside0 (kq ≤ k) ∧ Drawn0 w w')
  case atStart => exact ⟨(0),(by rfl),H',⟨Nat.le_refl _⟩,by repeat (exact Drawn0.refl _)⟩
  case round =>
   clear H'
   try clear c1
   try clear p2
   try clear c3
   try clear c3b0
   try clear c3b1
   try clear c3b2
   obtain ⟨x5_1,rfl,HA,HK1,⟨m1,rfl⟩⟩ := hrel
   cases gk with
   | zero => exact absurd HA.out (by simp [laws_rTexts.l0])
   | succ k1 =>
    have H:=HA.out
    clear HA
    simp only [laws_rTexts.l0] at H
    by_cases c4 : x5_1 < (l0.length : Int)
    ·rw [if_pos c4] at H
     have c4b0 : decide (x5_1 < (l0.length : Int)) = true:=decide_eq_true c4
     clear c4
     by_cases c5 : 0 ≤ x5_1
     ·rw [if_pos c5] at H
      have c5b0 : decide (0 ≤ x5_1) = true:=decide_eq_true c5
      clear c5
      by_cases c6 : x5_1 < (l1.length : Int)
      ·rw [if_pos c6] at H
       have c6b0 : decide (x5_1 < (l1.length : Int)) = true:=decide_eq_true c6
       clear c6
       by_cases c7 : (rdOf ByteArray.empty l0 x5_1).toList = (rdOf ByteArray.empty l1 x5_1).toList
       ·rw [if_pos c7] at H
        have c7b0 : ((rdOf ByteArray.empty l0 x5_1).toList == (rdOf ByteArray.empty l1 x5_1).toList) = true:=beq_iff_eq.mpr c7
        have c7b1 : ((rdOf ByteArray.empty l0 x5_1).toList != (rdOf ByteArray.empty l1 x5_1).toList) = false:=bne_eq_false_iff_eq.mpr c7
        clear c7
        have H':=Aside0.mk H
        clear H
        have p575 : 0 ≤ (x5_1 : Int):=of_decide_eq_true (by (with_reducible assumption))
        have q575 : x5_1 < (l0.length : Int):=of_decide_eq_true (by (with_reducible assumption))
        obtain ⟨ad575,e575,hx575_0⟩ := Kd.at_string HR0.out x5_1 p575 q575
        cases e575
        replace p575:=eq_true p575
        replace q575:=eq_true q575
        have p576 : 0 ≤ (x5_1 : Int):=of_decide_eq_true (by (with_reducible assumption))
        have q576 : x5_1 < (l1.length : Int):=of_decide_eq_true (by (with_reducible assumption))
        obtain ⟨ad576,e576,hx576_0⟩ := Kd.at_string HR1.out x5_1 p576 q576
        cases e576
        replace p576:=eq_true p576
        replace q576:=eq_true q576
        go_wp2
        repeat (go_quiet (fail);try go_wp2)
        go_roundg k1
        case measure => have:=HK1.out;omega
        case rel => exact ⟨(wrap64 (x5_1 + 1)),(by rfl),H',⟨by have:=HK1.out;omega⟩,by repeat (first | exact Drawn0.refl _ | apply Drawn0.step)⟩
       ·rw [if_neg c7] at H
        have c7b0 : ((rdOf ByteArray.empty l0 x5_1).toList == (rdOf ByteArray.empty l1 x5_1).toList) = false:=beq_eq_false_iff_ne.mpr c7
        have c7b1 : ((rdOf ByteArray.empty l0 x5_1).toList != (rdOf ByteArray.empty l1 x5_1).toList) = true:=bne_iff_ne.mpr c7
        obtain rfl:=Option.some.inj H
        have p575 : 0 ≤ (x5_1 : Int):=of_decide_eq_true (by (with_reducible assumption))
        have q575 : x5_1 < (l0.length : Int):=of_decide_eq_true (by (with_reducible assumption))
        obtain ⟨ad575,e575,hx575_0⟩ := Kd.at_string HR0.out x5_1 p575 q575
        cases e575
        replace p575:=eq_true p575
        replace q575:=eq_true q575
        have p576 : 0 ≤ (x5_1 : Int):=of_decide_eq_true (by (with_reducible assumption))
        have q576 : x5_1 < (l1.length : Int):=of_decide_eq_true (by (with_reducible assumption))
        obtain ⟨ad576,e576,hx576_0⟩ := Kd.at_string HR1.out x5_1 p576 q576
        cases e576
        replace p576:=eq_true p576
        replace q576:=eq_true q576
        go_wp2
        repeat (go_quiet (fail);try go_wp2)
        go_ret
        exact ⟨by rfl,by repeat (first | exact Drawn0.refl _ | apply Drawn0.step)⟩
      ·rw [if_neg c6] at H
       exact absurd H (by simp)
     ·rw [if_neg c5] at H
      exact absurd H (by simp)
    ·rw [if_neg c4] at H
     have c4b0 : decide (x5_1 < (l0.length : Int)) = false:=decide_eq_false c4
     clear c4
     obtain rfl:=Option.some.inj H
     go_wp2
     repeat (go_quiet (fail);try go_wp2)
     go_ret
     exact ⟨by rfl,by repeat (first | exact Drawn0.refl _ | apply Drawn0.step)⟩
 ·rw [if_neg c3] at H
  have c3b0 : ((l0.length : Int) == (l1.length : Int)) = false:=beq_eq_false_iff_ne.mpr c3
  have c3b1 : ((l0.length : Int) != (l1.length : Int)) = true:=bne_iff_ne.mpr c3
  have c3b2 : (l0.length == l1.length) = false:=by (simp at c3 ⊢;omega)
  obtain rfl:=Option.some.inj H
  go_enter Try.func16,Try.ntmps16
  go_wp2
  repeat (go_quiet (fail);try go_wp2)
  go_ret
  exact ⟨by rfl,by repeat (exact Drawn0.refl _)⟩

end Go.Proofs.Ytempmebpbbbkmaa.PFnWagons
