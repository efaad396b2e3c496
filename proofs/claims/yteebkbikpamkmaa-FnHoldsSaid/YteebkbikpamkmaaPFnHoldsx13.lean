-- Written by a program of this session, over the kit's print (wip/xprint.py)
import Derived.Test.YteebkbikpamkmaaPFnHoldsx0
import Derived.Test.YteebkbikpamkmaaPFnHoldsx2
import Derived.Test.YteebkbikpamkmaaPFnHoldsx4
import Derived.Test.YteebkbikpamkmaaPFnHoldsx8
import Derived.Test.YteebkbikpamkmaaPFnHoldsx9
import Derived.Test.YteebkbikpamkmaaPFnHoldsx10
import Derived.Test.YteebkbikpamkmaaPFnHoldsx11
namespace Go.Proofs.Yteebkbikpamkmaa.PFnHolds
open Go.RowKit Go.Proofs.YteebkbikpamkmaaW.PrintWords Go.Proofs.YteebkbikpamkmaaW.PrintLast Go.Proofs.YteebkbikpamkmaaW.PrintMore
attribute [local go_sem] max2_int min2_int max_two min_two max_three min_three max_four min_four   -- for this text's walks alone
set_option linter.unusedVariables false
set_option linter.unusedSimpArgs false

/-! ### laws_rTexts: function 15 -/
def laws_rTexts.l0 : Nat → List ByteArray → List ByteArray → Int → Option (Bool)
 | 0,_,_,_ => none
 | k + 1,x0,x1,x5 => if x5 < (x0.length : Int) then (if 0 ≤ x5 then (if x5 < (x1.length : Int) then (if (rdOf ByteArray.empty x0 x5).toList = (rdOf ByteArray.empty x1 x5).toList then (laws_rTexts.l0 k x0 x1 (wrap64 (x5 + 1))) else (some false)) else (none)) else (none)) else (some true)
def laws_rTexts.f (k : Nat) (l0 : List ByteArray) (l1 : List ByteArray) : Option (Bool):=if (l0.length : Int) = (l1.length : Int) then (laws_rTexts.l0 k l0 l1 0) else (some false)
theorem laws_rTexts.mono_l : ∀ k,(∀ y0 y1 y2,LeO (laws_rTexts.l0 k y0 y1 y2) (laws_rTexts.l0 (k + 1) y0 y1 y2))
 | 0 => fun _ _ _ r h => by simp [laws_rTexts.l0] at h
 | k + 1 => by
  have ih0:=laws_rTexts.mono_l k
  ·intro y0 y1 y2
   unfold laws_rTexts.l0
   repeat' first
   | (with_reducible exact ih0 _ _ _)
   | (with_reducible exact LeO.refl _)
   | (with_reducible exact LeO.none _)
   | (with_reducible refine LeO.ite ?_ ?_)
   | (with_reducible refine LeO.bind ?_ (fun _ => ?_))
   | exact ih0 _ _ _
   | exact LeO.none _
   | refine LeO.ite ?_ ?_
   | refine LeO.bind ?_ (fun _ => ?_)
theorem laws_rTexts.mono : ∀ a0 a1 k,LeO (laws_rTexts.f k a0 a1) (laws_rTexts.f (k + 1) a0 a1):=by
 intro a0 a1 k
 have ih0:=laws_rTexts.mono_l k
 unfold laws_rTexts.f
 repeat' first
   | (with_reducible exact ih0 _ _ _)
   | (with_reducible exact LeO.refl _)
   | (with_reducible exact LeO.none _)
   | (with_reducible refine LeO.ite ?_ ?_)
   | (with_reducible refine LeO.bind ?_ (fun _ => ?_))
   | exact ih0 _ _ _
   | exact LeO.none _
   | refine LeO.ite ?_ ?_
   | refine LeO.bind ?_ (fun _ => ?_)
set_option maxHeartbeats 8000000 in
set_option maxRecDepth 100000 in
theorem laws_rTexts.calls (k : Nat) (A0 : Option Addr) (c0 : Nat) (l0 : List ByteArray) (A1 : Option Addr) (c1 : Nat) (l1 : List ByteArray) (r : Bool) (w : World) (hr0 : Kd.C Kd.string w A0 l0.length l0) (hc0 : l0.length ≤ c0) (hr1 : Kd.C Kd.string w A1 l1.length l1) (hc1 : l1.length ≤ c1) (h : laws_rTexts.f k l0 l1 = some r) :
  Calls Try.prog 15 #[.slice A0 l0.length c0, .slice A1 l1.length c1] w fun e w' => e = .returned (.bool r) ∧ Drawn0 w w':=by
 have HR0:=Aside0.mk hr0
 have HC0:=Aside0.mk hc0
 clear hr0 hc0
 have HR1:=Aside0.mk hr1
 have HC1:=Aside0.mk hc1
 clear hr1 hc1
 have H : (if (l0.length : Int) = (l1.length : Int) then (laws_rTexts.l0 k l0 l1 0) else (some false)) = some r:=h
 clear h
 by_cases c3 : (l0.length : Int) = (l1.length : Int)
 ·rw [if_pos c3] at H
  have c3b0 : ((l0.length : Int) == (l1.length : Int)) = true:=beq_iff_eq.mpr c3
  have c3b1 : ((l0.length : Int) != (l1.length : Int)) = false:=bne_eq_false_iff_eq.mpr c3
  have c3b2 : (l0.length == l1.length) = true:=by (simp at c3 ⊢;omega)
  clear c3
  have H':=Aside0.mk H
  clear H
  go_enter Try.func15,Try.ntmps15
  go_wp2
  repeat (go_quiet (fail);try go_wp2)
  (skip)
  go_loopg [5] k (fun kq v5 w' => ∃ (x5_1 : Int),v5 = .int .i64 x5_1 ∧ Aside0 (laws_rTexts.l0 kq l0 l1 x5_1 = some r) ∧ Aside0 (kq ≤ k) ∧ Drawn0 w w')
  case atStart => exact ⟨(0),(by rfl),H',⟨Nat.le_refl _⟩,by repeat (exact Drawn0.refl _)⟩
  case round =>
   clear H'
   try clear c1
   try clear p2
   try clear c3
   try clear c3b0
   try clear c3b1
   try clear c3b2
   obtain ⟨x5_1,rfl,HA,HK1,⟨m1,rfl⟩⟩ := hrel
   cases gk with
   | zero => exact absurd HA.out (by simp [laws_rTexts.l0])
   | succ k1 =>
    have H:=HA.out
    clear HA
    simp only [laws_rTexts.l0] at H
    by_cases c4 : x5_1 < (l0.length : Int)
    ·rw [if_pos c4] at H
     have c4b0 : decide (x5_1 < (l0.length : Int)) = true:=decide_eq_true c4
     clear c4
     by_cases c5 : 0 ≤ x5_1
     ·rw [if_pos c5] at H
      have c5b0 : decide (0 ≤ x5_1) = true:=decide_eq_true c5
      clear c5
      by_cases c6 : x5_1 < (l1.length : Int)
      ·rw [if_pos c6] at H
       have c6b0 : decide (x5_1 < (l1.length : Int)) = true:=decide_eq_true c6
       clear c6
       by_cases c7 : (rdOf ByteArray.empty l0 x5_1).toList = (rdOf ByteArray.empty l1 x5_1).toList
       ·rw [if_pos c7] at H
        have c7b0 : ((rdOf ByteArray.empty l0 x5_1).toList == (rdOf ByteArray.empty l1 x5_1).toList) = true:=beq_iff_eq.mpr c7
        have c7b1 : ((rdOf ByteArray.empty l0 x5_1).toList != (rdOf ByteArray.empty l1 x5_1).toList) = false:=bne_eq_false_iff_eq.mpr c7
        clear c7
        have H':=Aside0.mk H
        clear H
        have p463 : 0 ≤ (x5_1 : Int):=of_decide_eq_true (by (with_reducible assumption))
        have q463 : x5_1 < (l0.length : Int):=of_decide_eq_true (by (with_reducible assumption))
        obtain ⟨ad463,e463,hx463_0⟩ := Kd.at_string HR0.out x5_1 p463 q463
        cases e463
        replace p463:=eq_true p463
        replace q463:=eq_true q463
        have p464 : 0 ≤ (x5_1 : Int):=of_decide_eq_true (by (with_reducible assumption))
        have q464 : x5_1 < (l1.length : Int):=of_decide_eq_true (by (with_reducible assumption))
        obtain ⟨ad464,e464,hx464_0⟩ := Kd.at_string HR1.out x5_1 p464 q464
        cases e464
        replace p464:=eq_true p464
        replace q464:=eq_true q464
        go_wp2
        repeat (go_quiet (fail);try go_wp2)
        go_roundg k1
        case measure => have:=HK1.out;omega
        case rel => exact ⟨(wrap64 (x5_1 + 1)),(by rfl),H',⟨by have:=HK1.out;omega⟩,by repeat (first | exact Drawn0.refl _ | apply Drawn0.step)⟩
       ·rw [if_neg c7] at H
        have c7b0 : ((rdOf ByteArray.empty l0 x5_1).toList == (rdOf ByteArray.empty l1 x5_1).toList) = false:=beq_eq_false_iff_ne.mpr c7
        have c7b1 : ((rdOf ByteArray.empty l0 x5_1).toList != (rdOf ByteArray.empty l1 x5_1).toList) = true:=bne_iff_ne.mpr c7
        obtain rfl:=Option.some.inj H
        have p463 : 0 ≤ (x5_1 : Int):=of_decide_eq_true (by (with_reducible assumption))
        have q463 : x5_1 < (l0.length : Int):=of_decide_eq_true (by (with_reducible assumption))
        obtain ⟨ad463,e463,hx463_0⟩ := Kd.at_string HR0.out x5_1 p463 q463
        cases e463
        replace p463:=eq_true p463
        replace q463:=eq_true q463
        have p464 : 0 ≤ (x5_1 : Int):=of_decide_eq_true (by (with_reducible assumption))
        have q464 : x5_1 < (l1.length : Int):=of_decide_eq_true (by (with_reducible assumption))
        obtain ⟨ad464,e464,hx464_0⟩ := Kd.at_string HR1.out x5_1 p464 q464
        cases e464
        replace p464:=eq_true p464
        replace q464:=eq_true q464
        go_wp2
        repeat (go_quiet (fail);try go_wp2)
        go_ret
        exact ⟨by rfl,by repeat (first | exact Drawn0.refl _ | apply Drawn0.step)⟩
      ·rw [if_neg c6] at H
       exact absurd H (by simp)
     ·rw [if_neg c5] at H
      exact absurd H (by simp)
    ·rw [if_neg c4] at H
     have c4b0 : decide (x5_1 < (l0.length : Int)) = false:=decide_eq_false c4
     clear c4
     obtain rfl:=Option.some.inj H
     go_wp2
     repeat (go_quiet (fail);try go_wp2)
     go_ret
     exact ⟨by rfl,by repeat (first | exact Drawn0.refl _ | apply Drawn0.step)⟩
 ·rw [if_neg c3] at H
  have c3b0 : ((l0.length : Int) == (l1.length : Int)) = false:=beq_eq_false_iff_ne.mpr c3
  have c3b1 : ((l0.length : Int) != (l1.length : Int)) = true:=bne_iff_ne.mpr c3
  have c3b2 : (l0.length == l1.length) = false:=by (simp at c3 ⊢;omega)
  obtain rfl:=Option.some.inj H
  go_enter Try.func15,Try.ntmps15
  go_wp2
  repeat (go_quiet (fail);try go_wp2)
  go_ret
  exact ⟨by rfl,by repeat (exact Drawn0.refl _)⟩








/-! ### strings_Join: function 43 -/
def strings_Join.f (l0 : List ByteArray) (a1 : ByteArray) : Option (ByteArray):=if l0.length ≤ 140737488355328 ∧ (Lib.join (l0.map (·.data.toList)) a1.data.toList).length ≤ 140737488355328 then some ⟨(Lib.join (l0.map (·.data.toList)) a1.data.toList).toArray⟩ else none
theorem strings_Join.calls (A0 : Option Addr) (c0 : Nat) (l0 : List ByteArray) (a1 : ByteArray) (r : ByteArray) (w : World) (hr0 : Kd.C Kd.string w A0 l0.length l0) (hc0 : l0.length ≤ c0) (h : strings_Join.f l0 a1 = some r) :
  Calls Try.prog 43 #[.slice A0 l0.length c0, .string a1] w fun e w' => e = .returned (.string r) ∧ Below w.heap.size w w':=by
 unfold strings_Join.f at h
 by_cases hc : l0.length ≤ 140737488355328 ∧ (Lib.join (l0.map (·.data.toList)) a1.data.toList).length ≤ 140737488355328
 ·rw [if_pos hc] at h
  obtain rfl:=Option.some.inj h
  rcases l0 with _ | ⟨x,l⟩
  ·refine (Try.strings_Join_none A0 c0 a1 w).mono fun e w' ⟨he,hw⟩ => ?_
   subst hw
   exact ⟨he,Below.refl _ _⟩
  ·obtain ⟨ad,e0,h0⟩ := Kd.at_string hr0 0 (by omega) (by simp only [List.length_cons];omega)
   have hb:=World.block_lt_of_cell? w _ h0
   have hs : ad.spot = none:=by
    unfold World.cell? Addr.add at h0
    simp only [Int.toNat_zero,if_true] at h0
    split at h0
    ·split at h0
     ·cases h0
     ·rename_i hn_
      cases hz_ : ad.spot with
      | none => rfl
      | some z_ => rw [hz_] at hn_;exact absurd rfl hn_
    ·cases h0
   obtain ⟨bk,o,sp⟩ := ad
   cases hs
   subst e0
   refine (Try.strings_Join bk o c0 (x :: l) a1 w (fun j y hj => ?_) (by simpa [Addr.add] using hb) hc.1 hc0 hc.2).mono fun e w' ⟨he,hw⟩ => ⟨he,hw⟩
   have hlt : j < (x :: l).length:=by
    rcases Nat.lt_or_ge j (x :: l).length with q | q
    ·exact q
    ·rw [List.getElem?_eq_none q] at hj;cases hj
   obtain ⟨ad,e1,h1⟩ := Kd.at_string hr0 (j : Int) (by omega) (by omega)
   cases e1
   rw [Int.toNat_natCast] at h1
   have ea : Addr.add ⟨bk,o,none⟩ j = ⟨bk,o + j,none⟩ := by
    unfold Addr.add
    split
    ·rename_i hz
     subst hz
     rfl
    ·rfl
   rw [ea] at h1
   rw [h1]
   unfold rdOf
   rw [Int.toNat_natCast,List.getD_eq_getElem?_getD,hj]
   rfl
 ·rw [if_neg hc] at h
  cases h

/-! ### impl_HoldNames: function 16 -/
def impl_HoldNames.l0 : Nat → Int → List ByteArray → List ByteArray → Int → Int → Option (ByteArray × Bool)
 | 0,_,_,_,_,_ => none
 | k + 1,x0,x4,x11,x12,x13 => if x13 < x12 then (if 0 ≤ x13 then (if x13 < (x11.length : Int) then (if (Go.bits .and .i64 (shr .i64 x0 x13) 1) = 1 then (if x4.length < 8796093022208 then (impl_HoldNames.l0 k x0 (x4 ++ [rdOf ByteArray.empty x11 x13]) x11 x12 (wrap64 (x13 + 1))) else (none)) else (impl_HoldNames.l0 k x0 x4 x11 x12 (wrap64 (x13 + 1)))) else (none)) else (none)) else (if (x4.length : Int) = 0 then (some ((⟨#[110,111,110,101]⟩ : ByteArray),true)) else ((strings_Join.f x4 (⟨#[44,32]⟩ : ByteArray)).bind fun t476 => (some (t476,true))))
def impl_HoldNames.f (k : Nat) (a0 : Int) : Option (ByteArray × Bool):=(impl_within.f a0 0 15).bind fun t465 => (if t465 = true then ((some (([(⟨#[100,111,99,117,109,101,110,116,115]⟩ : ByteArray),(⟨#[105,110,115,112,101,99,116,105,111,110]⟩ : ByteArray),(⟨#[100,117,116,105,101,115]⟩ : ByteArray),(⟨#[113,117,97,114,97,110,116,105,110,101]⟩ : ByteArray)] : List ByteArray) : List ByteArray)).bind fun y469 => (impl_HoldNames.l0 k a0 (([] : List ByteArray)) y469 (y469.length : Int) 0)) else (some ((⟨#[]⟩ : ByteArray),false)))
theorem impl_HoldNames.mono_l : ∀ k,(∀ y0 y1 y2 y3 y4,LeO (impl_HoldNames.l0 k y0 y1 y2 y3 y4) (impl_HoldNames.l0 (k + 1) y0 y1 y2 y3 y4))
 | 0 => fun _ _ _ _ _ r h => by simp [impl_HoldNames.l0] at h
 | k + 1 => by
  have ih0:=impl_HoldNames.mono_l k
  ·intro y0 y1 y2 y3 y4
   unfold impl_HoldNames.l0
   repeat' first
   | (with_reducible exact ih0 _ _ _ _ _)
   | (with_reducible exact LeO.refl _)
   | (with_reducible exact LeO.none _)
   | (with_reducible refine LeO.ite ?_ ?_)
   | (with_reducible refine LeO.bind ?_ (fun _ => ?_))
   | exact ih0 _ _ _ _ _
   | exact LeO.none _
   | refine LeO.ite ?_ ?_
   | refine LeO.bind ?_ (fun _ => ?_)
theorem impl_HoldNames.mono : ∀ a0 k,LeO (impl_HoldNames.f k a0) (impl_HoldNames.f (k + 1) a0):=by
 intro a0 k
 have ih0:=impl_HoldNames.mono_l k
 unfold impl_HoldNames.f
 repeat' first
   | (with_reducible exact ih0 _ _ _ _ _)
   | (with_reducible exact LeO.refl _)
   | (with_reducible exact LeO.none _)
   | (with_reducible refine LeO.ite ?_ ?_)
   | (with_reducible refine LeO.bind ?_ (fun _ => ?_))
   | exact ih0 _ _ _ _ _
   | exact LeO.none _
   | refine LeO.ite ?_ ?_
   | refine LeO.bind ?_ (fun _ => ?_)
set_option maxHeartbeats 8000000 in
set_option maxRecDepth 100000 in
theorem impl_HoldNames.calls (k : Nat) (a0 : Int) (r1 : ByteArray) (r2 : Bool) (w : World) (h : impl_HoldNames.f k a0 = some (r1,r2)) :
  Calls Try.prog 16 #[.int .i64 a0] w fun e w' => e = .returned (.tuple #[.string r1, .bool r2]) ∧ Below w.heap.size w w':=by
 have HB:=Aside0.mk (Below.refl w.heap.size w)
 have H : ((impl_within.f a0 0 15).bind fun t465 => (if t465 = true then ((some (([(⟨#[100,111,99,117,109,101,110,116,115]⟩ : ByteArray),(⟨#[105,110,115,112,101,99,116,105,111,110]⟩ : ByteArray),(⟨#[100,117,116,105,101,115]⟩ : ByteArray),(⟨#[113,117,97,114,97,110,116,105,110,101]⟩ : ByteArray)] : List ByteArray) : List ByteArray)).bind fun y469 => (impl_HoldNames.l0 k a0 (([] : List ByteArray)) y469 (y469.length : Int) 0)) else (some ((⟨#[]⟩ : ByteArray),false)))) = some (r1,r2):=h
 clear h
 replace H:=Option.bind_eq_some_iff.mp H
 obtain ⟨t465,A20,H⟩ := H
 replace H : (if t465 = true then ((some (([(⟨#[100,111,99,117,109,101,110,116,115]⟩ : ByteArray),(⟨#[105,110,115,112,101,99,116,105,111,110]⟩ : ByteArray),(⟨#[100,117,116,105,101,115]⟩ : ByteArray),(⟨#[113,117,97,114,97,110,116,105,110,101]⟩ : ByteArray)] : List ByteArray) : List ByteArray)).bind fun y469 => (impl_HoldNames.l0 k a0 (([] : List ByteArray)) y469 (y469.length : Int) 0)) else (some ((⟨#[]⟩ : ByteArray),false))) = some (r1,r2):=H
 have A2:=Aside0.mk A20
 clear A20
 by_cases c3 : t465 = true
 ·subst c3
  have H1 : ((some (([(⟨#[100,111,99,117,109,101,110,116,115]⟩ : ByteArray),(⟨#[105,110,115,112,101,99,116,105,111,110]⟩ : ByteArray),(⟨#[100,117,116,105,101,115]⟩ : ByteArray),(⟨#[113,117,97,114,97,110,116,105,110,101]⟩ : ByteArray)] : List ByteArray) : List ByteArray)).bind fun y469 => (impl_HoldNames.l0 k a0 (([] : List ByteArray)) y469 (y469.length : Int) 0)) = some (r1,r2):=by rw [if_pos rfl] at H;exact H
  clear H
  have H:=H1
  clear H1
  obtain ⟨y466,hy466⟩ : ∃ y_ : List ByteArray,y_ = (([] : List ByteArray)):=⟨_,rfl⟩
  replace H : ((some (([(⟨#[100,111,99,117,109,101,110,116,115]⟩ : ByteArray),(⟨#[105,110,115,112,101,99,116,105,111,110]⟩ : ByteArray),(⟨#[100,117,116,105,101,115]⟩ : ByteArray),(⟨#[113,117,97,114,97,110,116,105,110,101]⟩ : ByteArray)] : List ByteArray) : List ByteArray)).bind fun y469 => (impl_HoldNames.l0 k a0 y466 y469 (y469.length : Int) 0)) = some (r1,r2):=by (rw [hy466];with_reducible exact H)
  have Ny466:=Aside0.mk hy466
  clear hy466
  obtain ⟨y469,hy469⟩ : ∃ y_ : List ByteArray,y_ = (([(⟨#[100,111,99,117,109,101,110,116,115]⟩ : ByteArray),(⟨#[105,110,115,112,101,99,116,105,111,110]⟩ : ByteArray),(⟨#[100,117,116,105,101,115]⟩ : ByteArray),(⟨#[113,117,97,114,97,110,116,105,110,101]⟩ : ByteArray)] : List ByteArray)):=⟨_,rfl⟩
  replace H : (impl_HoldNames.l0 k a0 y466 y469 (y469.length : Int) 0) = some (r1,r2):=by (have H2_:=(Option.bind_some _ _).symm.trans H;rw [hy469];with_reducible exact H2_)
  have Ny469:=Aside0.mk hy469
  clear hy469
  have H':=Aside0.mk H
  clear H
  go_enter Try.func16,Try.ntmps16
  go_wp2_with (first | ((with_reducible refine gate_callee (f:=39) rfl ?_);refine goesL_ (some 8) rfl rfl Try.func39 (by kernel_rfl) rfl #[.int .i64 a0, .int .i64 0, .int .i64 15] rfl (by (try simp only [List.map_toArray,List.map_cons,List.map_nil]);rfl) ?_;(with_reducible refine (impl_within.calls a0 0 15 true _ A2.out).mono ?_);rintro e w' ⟨rfl,⟨nd,rfl⟩⟩;refine ⟨_,rfl, ?_⟩) | ((with_reducible refine gate_dst (N:=10) rfl ?_);refine Kd.R_lit Kd.string _ 9 ?hg (N:=10) ?hd (xs:=([] : List ByteArray)) (inner := []) (ok:=fun _ => True) (okp:=fun _ => True) ?hr ?hp (fun _ hk => hk) trivial (Below.refl _ _) (Nat.le_refl _) (by simp) ?_;(case hd => rfl);(case hg => rfl);(case hr => (go_simp;done));(case hp => exact (Reps.none _ _));intro v467 w4 ho5 hb hg_ hnew_;clear hg_ hnew_;(rw [← Ny466.out] at ho5);have n0_:=Aside0.mk (Kd.R_lower ho5 (below_size (by repeat ((with_reducible first | exact HB.out | apply pw_below_drewN)))));have n1_:=Aside0.mk (below_step (by repeat ((with_reducible first | exact HB.out | apply pw_below_drewN))) hb);clear HB;have HO468:=n0_;have HB:=n1_;clear n0_ n1_;clear hb ho5) | ((with_reducible refine gate_dst (N:=11) rfl ?_);refine Kd.R_lit Kd.string _ 9 ?hg (N:=11) ?hd (xs:=([(⟨#[100,111,99,117,109,101,110,116,115]⟩ : ByteArray),(⟨#[105,110,115,112,101,99,116,105,111,110]⟩ : ByteArray),(⟨#[100,117,116,105,101,115]⟩ : ByteArray),(⟨#[113,117,97,114,97,110,116,105,110,101]⟩ : ByteArray)] : List ByteArray)) (inner := [.string (⟨#[100,111,99,117,109,101,110,116,115]⟩ : ByteArray), .string (⟨#[105,110,115,112,101,99,116,105,111,110]⟩ : ByteArray), .string (⟨#[100,117,116,105,101,115]⟩ : ByteArray), .string (⟨#[113,117,97,114,97,110,116,105,110,101]⟩ : ByteArray)]) (ok:=fun _ => True) (okp:=fun _ => True) ?hr ?hp (fun _ hk => hk) trivial (Below.refl _ _) (Nat.le_refl _) (by simp) ?_;(case hd => rfl);(case hg => rfl);(case hr => (go_simp;done));(case hp => exact (Reps.one (show Kd.M Kd.string _ _ _ (⟨#[100,111,99,117,109,101,110,116,115]⟩ : ByteArray) [.string (⟨#[100,111,99,117,109,101,110,116,115]⟩ : ByteArray)] from rfl) (Reps.one (show Kd.M Kd.string _ _ _ (⟨#[105,110,115,112,101,99,116,105,111,110]⟩ : ByteArray) [.string (⟨#[105,110,115,112,101,99,116,105,111,110]⟩ : ByteArray)] from rfl) (Reps.one (show Kd.M Kd.string _ _ _ (⟨#[100,117,116,105,101,115]⟩ : ByteArray) [.string (⟨#[100,117,116,105,101,115]⟩ : ByteArray)] from rfl) (Reps.one (show Kd.M Kd.string _ _ _ (⟨#[113,117,97,114,97,110,116,105,110,101]⟩ : ByteArray) [.string (⟨#[113,117,97,114,97,110,116,105,110,101]⟩ : ByteArray)] from rfl) (Reps.none _ _))))));intro v470 w6 ho7 hb hg_ hnew_;clear hg_ hnew_;(rw [← Ny469.out] at ho7);have n0_:=Aside0.mk (Kd.R_elder' (by exact HO468.out) (Kd.R_base ho7) hb);have n1_:=Aside0.mk (Kd.R_lower (Kd.R_new' ho7 (Kd.R_lt (by exact HO468.out))) (below_size (by exact HB.out)));have n2_:=Aside0.mk (below_step (by exact HB.out) hb);clear HO468;clear HB;have HO468:=n0_;have HO471:=n1_;have HB:=n2_;clear n0_ n1_ n2_;clear hb ho7;obtain ⟨Ao8,co8,eo8⟩ := Kd.R_slice HO471.out;subst eo8))
  (skip)
  go_loopg [4,13] k (fun kq v4 v13 w' => ∃ (x4_1 : List ByteArray) (x13_1 : Int),v13 = .int .i64 x13_1 ∧ Aside0 (impl_HoldNames.l0 kq a0 x4_1 y469 (y469.length : Int) x13_1 = some (r1,r2)) ∧ Aside0 (kq ≤ k) ∧ Aside0 (Kd.R Kd.string 9 w' w.heap.size (fun k_ => some k_ ≠ ((.slice Ao8 y469.length co8) : Value).ownBlock) v4 x4_1) ∧ Aside0 (Kd.R Kd.string 9 w' w.heap.size (fun k_ => some k_ ≠ (v4 : Value).ownBlock) (.slice Ao8 y469.length co8) y469) ∧ Aside0 (Below w.heap.size w w'))
  case atStart => exact ⟨(y466),(0),(by rfl),H',⟨Nat.le_refl _⟩,⟨by exact Kd.R_mono HO468.out (fun _ hk => hk.2)⟩,⟨by exact Kd.R_mono HO471.out (fun _ hk => hk.2)⟩,⟨by exact HB.out⟩⟩
  case round =>
   clear H'
   try clear c1
   try clear p2
   try clear c3
   obtain ⟨x4_1,x13_1,rfl,HA,HK1,HO_4,HO_11,HB⟩ := hrel
   cases gk with
   | zero => exact absurd HA.out (by simp [impl_HoldNames.l0])
   | succ k1 =>
    have H:=HA.out
    clear HA
    simp only [impl_HoldNames.l0] at H
    by_cases c9 : x13_1 < (y469.length : Int)
    ·rw [if_pos c9] at H
     have c9b0 : decide (x13_1 < (y469.length : Int)) = true:=decide_eq_true c9
     clear c9
     by_cases c10 : 0 ≤ x13_1
     ·rw [if_pos c10] at H
      have c10b0 : decide (0 ≤ x13_1) = true:=decide_eq_true c10
      clear c10
      by_cases c11 : x13_1 < (y469.length : Int)
      ·rw [if_pos c11] at H
       have c11b0 : decide (x13_1 < (y469.length : Int)) = true:=decide_eq_true c11
       clear c11
       have c12b0:=eq_true (of_decide_eq_true (by (with_reducible assumption)) : 0 ≤ x13_1)
       obtain ⟨ji13,hji13⟩ : ∃ j_ : Int,(shr .i64 a0 x13_1) = j_:=⟨_,rfl⟩
       replace H : (if (Go.bits .and .i64 (ji13) 1) = 1 then (if x4_1.length < 8796093022208 then (impl_HoldNames.l0 k1 a0 (x4_1 ++ [rdOf ByteArray.empty y469 x13_1]) y469 (y469.length : Int) (wrap64 (x13_1 + 1))) else (none)) else (impl_HoldNames.l0 k1 a0 x4_1 y469 (y469.length : Int) (wrap64 (x13_1 + 1)))) = some (r1,r2):=by (rw [hji13] at H;exact H)
       have hji13_ : (a0 / 2 ^ min x13_1.toNat 64) = ji13:=hji13
       have hji13z : x13_1 ≤ 64 → (a0 / 2 ^ x13_1.toNat) = ji13:=shr_small hji13
       by_cases c14 : (Go.bits .and .i64 (ji13) 1) = 1
       ·rw [if_pos c14] at H
        have c14b0 : ((Go.bits .and .i64 (ji13) 1) == 1) = true:=beq_iff_eq.mpr c14
        have c14b1 : ((Go.bits .and .i64 (ji13) 1) != 1) = false:=bne_eq_false_iff_eq.mpr c14
        clear c14
        by_cases c15 : x4_1.length < 8796093022208
        ·rw [if_pos c15] at H
         have LMc15:=Aside0.mk c15
         clear c15
         obtain ⟨y473,hy473⟩ : ∃ y_ : List ByteArray,y_ = (x4_1 ++ [rdOf ByteArray.empty y469 x13_1]):=⟨_,rfl⟩
         replace H : (impl_HoldNames.l0 k1 a0 y473 y469 (y469.length : Int) (wrap64 (x13_1 + 1))) = some (r1,r2):=by (rw [hy473];with_reducible exact H)
         have Ny473:=Aside0.mk hy473
         clear hy473
         have H':=Aside0.mk H
         clear H
         have p472 : 0 ≤ (x13_1 : Int):=of_decide_eq_true (by (with_reducible assumption))
         have q472 : x13_1 < (y469.length : Int):=of_decide_eq_true (by (with_reducible assumption))
         obtain ⟨ad472,e472,hx472_0⟩ := Kd.at_string (Kd.R_reads' HO_11.out).2.2 x13_1 p472 q472
         cases e472
         replace p472:=eq_true p472
         replace q472:=eq_true q472
         go_wp2_with (((with_reducible refine gate_builtin (b := .append) (xs:=#[.tmp 23, .tmp 25]) rfl ?_);at_builtin;refine Kd.R_append Kd.string (w0:=w) w.heap.size rfl (.tmp 23) (.tmp 25) 35 9 (.string ⟨#[]⟩) 16 rfl Try.underlying35 info9 rfl (by decide) (by omega) u4 x4_1 (rdOf ByteArray.empty y469 x13_1) [.string (rdOf ByteArray.empty y469 x13_1)] (fun k_ => some k_ ≠ (.slice (some ad472) y469.length co8 : Value).ownBlock) (fun _ => False) rfl rfl ?aP (fun _ hk => hk.elim) ?aF ?aO ?aB ?aS ?aL ?_;(case aP => exact rfl);(case aB => exact (by exact HB.out));(case aF => exact (fun k_ hk => Kd.fresh' (Kd.R_lt (by exact HO_11.out)) k_ hk));(case aO => exact (by exact HO_4.out));(case aS => exact (below_size (by exact HB.out)));(case aL => have:=LMc15.out;omega);intro v474 w16 ho hb hg hat;rw [← Ny473.out] at ho;have n0_:=Aside0.mk (Kd.R_after (ok:=(fun _ => True)) (by exact Kd.R_mono HO_11.out (fun _ hk => ⟨trivial,hk⟩)) hg hat);have n1_:=Aside0.mk (hb);have n2_:=Aside0.mk (ho);clear HO_11;clear HB;clear HO_4;have HO_11:=n0_;have HB:=n1_;have HO475:=n2_;clear n0_ n1_ n2_;clear ho hb hg hat))
         go_roundg k1
         case measure => have:=HK1.out;omega
         case rel => exact ⟨(y473),(wrap64 (x13_1 + 1)),(by rfl),H',⟨by have:=HK1.out;omega⟩,⟨by exact HO475.out⟩,⟨by exact Kd.R_mono HO_11.out (fun _ hk => hk.2)⟩,⟨by exact HB.out⟩⟩
        ·rw [if_neg c15] at H
         exact absurd H (by simp)
       ·rw [if_neg c14] at H
        have c14b0 : ((Go.bits .and .i64 (ji13) 1) == 1) = false:=beq_eq_false_iff_ne.mpr c14
        have c14b1 : ((Go.bits .and .i64 (ji13) 1) != 1) = true:=bne_iff_ne.mpr c14
        have H':=Aside0.mk H
        clear H
        have p472 : 0 ≤ (x13_1 : Int):=of_decide_eq_true (by (with_reducible assumption))
        have q472 : x13_1 < (y469.length : Int):=of_decide_eq_true (by (with_reducible assumption))
        obtain ⟨ad472,e472,hx472_0⟩ := Kd.at_string (Kd.R_reads' HO_11.out).2.2 x13_1 p472 q472
        cases e472
        replace p472:=eq_true p472
        replace q472:=eq_true q472
        go_wp2
        go_roundg k1
        case measure => have:=HK1.out;omega
        case rel => exact ⟨(x4_1),(wrap64 (x13_1 + 1)),(by rfl),H',⟨by have:=HK1.out;omega⟩,⟨by exact HO_4.out⟩,⟨by exact HO_11.out⟩,⟨by exact HB.out⟩⟩
      ·rw [if_neg c11] at H
       exact absurd H (by simp)
     ·rw [if_neg c10] at H
      exact absurd H (by simp)
    ·rw [if_neg c9] at H
     have c9b0 : decide (x13_1 < (y469.length : Int)) = false:=decide_eq_false c9
     clear c9
     by_cases c17 : (x4_1.length : Int) = 0
     ·rw [if_pos c17] at H
      have c17b0 : ((x4_1.length : Int) == 0) = true:=beq_iff_eq.mpr c17
      have c17b1 : ((x4_1.length : Int) != 0) = false:=bne_eq_false_iff_eq.mpr c17
      clear c17
      simp only [Option.some.injEq,Prod.mk.injEq] at H
      obtain ⟨rfl,rfl⟩ := H
      obtain ⟨Ao18,co18,eo18⟩ := Kd.R_slice HO_4.out
      subst eo18
      go_wp2
      go_ret2
      exact ⟨by rfl,by exact HB.out⟩
     ·rw [if_neg c17] at H
      have c17b0 : ((x4_1.length : Int) == 0) = false:=beq_eq_false_iff_ne.mpr c17
      have c17b1 : ((x4_1.length : Int) != 0) = true:=bne_iff_ne.mpr c17
      have c17b2 : ¬ (x4_1 = []):=fun h_ => c17 (by rw [h_];rfl)
      replace H:=Option.bind_eq_some_iff.mp H
      obtain ⟨t476,A190,H⟩ := H
      replace H : (some (t476,true)) = some (r1,r2):=H
      have A19:=Aside0.mk A190
      clear A190
      simp only [Option.some.injEq,Prod.mk.injEq] at H
      obtain ⟨rfl,rfl⟩ := H
      obtain ⟨Ao20,co20,eo20⟩ := Kd.R_slice HO_4.out
      subst eo20
      go_wp2_with (((with_reducible refine gate_callee (f:=43) rfl ?_);refine goesL_ (some 32) rfl rfl Try.func43 (by kernel_rfl) rfl #[.slice Ao20 x4_1.length co20, .string (⟨#[44,32]⟩ : ByteArray)] rfl (by (try simp only [List.map_toArray,List.map_cons,List.map_nil]);rfl) ?_;(with_reducible refine (strings_Join.calls _ _ x4_1 (⟨#[44,32]⟩ : ByteArray) t476 _ ?side1 ?side2 A19.out).mono ?_);(case side1 => repeat (exact (Kd.R_reads' HO_4.out).2.2));(case side2 => exact (Kd.R_reads' HO_4.out).2.1);rintro e w21 ⟨rfl,hb⟩;refine ⟨_,rfl, ?_⟩;have n0_:=Aside0.mk (Kd.R_below (by exact HO_4.out) hb);have n1_:=Aside0.mk (Kd.R_below (by exact HO_11.out) hb);have n2_:=Aside0.mk (below_step (by exact HB.out) hb);clear HO_4;clear HO_11;clear HB;have HO_4:=n0_;have HO_11:=n1_;have HB:=n2_;clear n0_ n1_ n2_;(try clear hb)))
      go_ret2
      exact ⟨by rfl,by exact HB.out⟩
 ·replace c3:=Bool.eq_false_iff.mpr c3
  subst c3
  have H1 : (some ((⟨#[]⟩ : ByteArray),false)) = some (r1,r2):=by rw [if_neg (show ¬ (false = true) by decide)] at H;exact H
  clear H
  have H:=H1
  clear H1
  simp only [Option.some.injEq,Prod.mk.injEq] at H
  obtain ⟨rfl,rfl⟩ := H
  go_enter Try.func16,Try.ntmps16
  go_wp2_with (((with_reducible refine gate_callee (f:=39) rfl ?_);refine goesL_ (some 8) rfl rfl Try.func39 (by kernel_rfl) rfl #[.int .i64 a0, .int .i64 0, .int .i64 15] rfl (by (try simp only [List.map_toArray,List.map_cons,List.map_nil]);rfl) ?_;(with_reducible refine (impl_within.calls a0 0 15 false _ A2.out).mono ?_);rintro e w' ⟨rfl,⟨nd,rfl⟩⟩;refine ⟨_,rfl, ?_⟩))
  go_ret2
  exact ⟨by rfl,by repeat ((with_reducible first | exact HB.out | apply pw_below_drewN))⟩

/-! ### spec_HoldsOn: function 18 -/
def spec_HoldsOn.j0 : Nat → List (S52) → ByteArray → Int → Bool → Option (Int × Bool)
 | 0,_,_,_,_ => none
 | k + 1,x0,x1,x2,x20 => if x20 = true then (some (0,false)) else ((spec_l20By.f k x0 x2).bind fun t480 => ((spec_l20At.f k x0 t480 x1).bind fun t481 => (some (t481,true))))
def spec_HoldsOn.f (k : Nat) (l0 : List (S52)) (a1 : ByteArray) (a2 : Int) : Option (Int × Bool):=(spec_l20Good.f k l0).bind fun t477 => (if t477 = true then ((spec_l2Id.f k a1).bind fun t478 => (if t478 = true then ((spec_l20Hour.f a2).bind fun t479 => (spec_HoldsOn.j0 k l0 a1 a2 (!t479))) else (spec_HoldsOn.j0 k l0 a1 a2 true))) else (spec_HoldsOn.j0 k l0 a1 a2 true))
theorem spec_HoldsOn.mono_l : ∀ k,(∀ y0 y1 y2 y3,LeO (spec_HoldsOn.j0 k y0 y1 y2 y3) (spec_HoldsOn.j0 (k + 1) y0 y1 y2 y3))
 | 0 => fun _ _ _ _ r h => by simp [spec_HoldsOn.j0] at h
 | k + 1 => by
  have ih0:=spec_HoldsOn.mono_l k
  ·intro y0 y1 y2 y3
   unfold spec_HoldsOn.j0
   repeat' first
   | (with_reducible exact ih0 _ _ _ _)
   | (with_reducible exact spec_l20At.mono _ _ _ _)
   | (with_reducible exact spec_l20By.mono _ _ _)
   | (with_reducible exact spec_l20Good.mono _ _)
   | (with_reducible exact spec_l2Id.mono _ _)
   | (with_reducible exact LeO.refl _)
   | (with_reducible exact LeO.none _)
   | (with_reducible refine LeO.ite ?_ ?_)
   | (with_reducible refine LeO.bind ?_ (fun _ => ?_))
   | exact ih0 _ _ _ _
   | exact spec_l20At.mono _ _ _ _
   | exact spec_l20By.mono _ _ _
   | exact spec_l20Good.mono _ _
   | exact spec_l2Id.mono _ _
   | exact LeO.none _
   | refine LeO.ite ?_ ?_
   | refine LeO.bind ?_ (fun _ => ?_)
theorem spec_HoldsOn.mono : ∀ a0 a1 a2 k,LeO (spec_HoldsOn.f k a0 a1 a2) (spec_HoldsOn.f (k + 1) a0 a1 a2):=by
 intro a0 a1 a2 k
 have ih0:=spec_HoldsOn.mono_l k
 unfold spec_HoldsOn.f
 repeat' first
   | (with_reducible exact ih0 _ _ _ _)
   | (with_reducible exact spec_l20At.mono _ _ _ _)
   | (with_reducible exact spec_l20By.mono _ _ _)
   | (with_reducible exact spec_l20Good.mono _ _)
   | (with_reducible exact spec_l2Id.mono _ _)
   | (with_reducible exact LeO.refl _)
   | (with_reducible exact LeO.none _)
   | (with_reducible refine LeO.ite ?_ ?_)
   | (with_reducible refine LeO.bind ?_ (fun _ => ?_))
   | exact ih0 _ _ _ _
   | exact spec_l20At.mono _ _ _ _
   | exact spec_l20By.mono _ _ _
   | exact spec_l20Good.mono _ _
   | exact spec_l2Id.mono _ _
   | exact LeO.none _
   | refine LeO.ite ?_ ?_
   | refine LeO.bind ?_ (fun _ => ?_)
set_option maxHeartbeats 8000000 in
set_option maxRecDepth 100000 in
theorem spec_HoldsOn.calls (k : Nat) (A0 : Option Addr) (c0 : Nat) (l0 : List (S52)) (a1 : ByteArray) (a2 : Int) (r1 : Int) (r2 : Bool) (w : World) (hr0 : Kd.C k52 w A0 l0.length l0) (hc0 : l0.length ≤ c0) (h : spec_HoldsOn.f k l0 a1 a2 = some (r1,r2)) :
  Calls Try.prog 18 #[.slice A0 l0.length c0, .string a1, .int .i64 a2] w fun e w' => e = .returned (.tuple #[.int .i64 r1, .bool r2]) ∧ Below w.heap.size w w':=by
 have HR0:=Aside0.mk hr0
 have HC0:=Aside0.mk hc0
 clear hr0 hc0
 have HB:=Aside0.mk (Below.refl w.heap.size w)
 have H : ((spec_l20Good.f k l0).bind fun t477 => (if t477 = true then ((spec_l2Id.f k a1).bind fun t478 => (if t478 = true then ((spec_l20Hour.f a2).bind fun t479 => (spec_HoldsOn.j0 k l0 a1 a2 (!t479))) else (spec_HoldsOn.j0 k l0 a1 a2 true))) else (spec_HoldsOn.j0 k l0 a1 a2 true))) = some (r1,r2):=h
 clear h
 have HC4:=Aside0.mk H
 clear H
 go_enter Try.func18,Try.ntmps18
 go_upto_region 1 with (fail)
 go_cut [20] (fun v20 wc => ∃ (kq : Nat) (x20_3 : Bool),v20 = .bool x20_3 ∧ Aside0 (spec_HoldsOn.j0 kq l0 a1 a2 x20_3 = some (r1,r2)) ∧ Aside0 (kq ≤ k) ∧ Aside0 (Below w.heap.size w wc))
 case first =>
  have H:=HC4.out
  clear HC4
  replace H:=Option.bind_eq_some_iff.mp H
  obtain ⟨t477,A50,H⟩ := H
  replace H : (if t477 = true then ((spec_l2Id.f k a1).bind fun t478 => (if t478 = true then ((spec_l20Hour.f a2).bind fun t479 => (spec_HoldsOn.j0 k l0 a1 a2 (!t479))) else (spec_HoldsOn.j0 k l0 a1 a2 true))) else (spec_HoldsOn.j0 k l0 a1 a2 true)) = some (r1,r2):=H
  have A5:=Aside0.mk A50
  clear A50
  by_cases c6 : t477 = true
  ·subst c6
   have H1 : ((spec_l2Id.f k a1).bind fun t478 => (if t478 = true then ((spec_l20Hour.f a2).bind fun t479 => (spec_HoldsOn.j0 k l0 a1 a2 (!t479))) else (spec_HoldsOn.j0 k l0 a1 a2 true))) = some (r1,r2):=by rw [if_pos rfl] at H;exact H
   clear H
   have H:=H1
   clear H1
   replace H:=Option.bind_eq_some_iff.mp H
   obtain ⟨t478,A70,H⟩ := H
   replace H : (if t478 = true then ((spec_l20Hour.f a2).bind fun t479 => (spec_HoldsOn.j0 k l0 a1 a2 (!t479))) else (spec_HoldsOn.j0 k l0 a1 a2 true)) = some (r1,r2):=H
   have A7:=Aside0.mk A70
   clear A70
   by_cases c8 : t478 = true
   ·subst c8
    have H1 : ((spec_l20Hour.f a2).bind fun t479 => (spec_HoldsOn.j0 k l0 a1 a2 (!t479))) = some (r1,r2):=by rw [if_pos rfl] at H;exact H
    clear H
    have H:=H1
    clear H1
    replace H:=Option.bind_eq_some_iff.mp H
    obtain ⟨t479,A90,H⟩ := H
    replace H : (spec_HoldsOn.j0 k l0 a1 a2 (!t479)) = some (r1,r2):=H
    have A9:=Aside0.mk A90
    clear A90
    have H':=Aside0.mk H
    clear H
    go_wp2_with (first | ((with_reducible refine gate_callee (f:=32) rfl ?_);refine goesL_ (some 9) rfl rfl Try.func32 (by kernel_rfl) rfl #[.slice A0 l0.length c0] rfl (by (try simp only [List.map_toArray,List.map_cons,List.map_nil]);rfl) ?_;(with_reducible refine (spec_l20Good.calls k _ _ l0 true _ ?side1 ?side2 A5.out).mono ?_);(case side1 => repeat (exact (Kd.C_below HR0.out HB.out)));(case side2 => exact HC0.out);rintro e w10 ⟨rfl,hb⟩;refine ⟨_,rfl, ?_⟩;have n0_:=Aside0.mk (below_step (by exact HB.out) hb);clear HB;have HB:=n0_;clear n0_;(try clear hb)) | (go_at_call 33;(with_reducible refine (spec_l2Id.calls k a1 true _ A7.out).mono ?_);rintro e w' ⟨rfl,⟨nd,rfl⟩⟩) | (go_at_call 34;(with_reducible refine (spec_l20Hour.calls a2 t479 _ A9.out).mono ?_);rintro e w' ⟨rfl,⟨nd,rfl⟩⟩))
    go_meet
    case rel => exact ⟨_,(!t479),(by rfl),H',⟨by omega⟩,⟨by repeat ((with_reducible first | exact HB.out | apply pw_below_drewN))⟩⟩
   ·replace c8:=Bool.eq_false_iff.mpr c8
    subst c8
    have H1 : (spec_HoldsOn.j0 k l0 a1 a2 true) = some (r1,r2):=by rw [if_neg (show ¬ (false = true) by decide)] at H;exact H
    clear H
    have H:=H1
    clear H1
    have H':=Aside0.mk H
    clear H
    go_wp2_with (first | ((with_reducible refine gate_callee (f:=32) rfl ?_);refine goesL_ (some 9) rfl rfl Try.func32 (by kernel_rfl) rfl #[.slice A0 l0.length c0] rfl (by (try simp only [List.map_toArray,List.map_cons,List.map_nil]);rfl) ?_;(with_reducible refine (spec_l20Good.calls k _ _ l0 true _ ?side1 ?side2 A5.out).mono ?_);(case side1 => repeat (exact (Kd.C_below HR0.out HB.out)));(case side2 => exact HC0.out);rintro e w11 ⟨rfl,hb⟩;refine ⟨_,rfl, ?_⟩;have n0_:=Aside0.mk (below_step (by exact HB.out) hb);clear HB;have HB:=n0_;clear n0_;(try clear hb)) | (go_at_call 33;(with_reducible refine (spec_l2Id.calls k a1 false _ A7.out).mono ?_);rintro e w' ⟨rfl,⟨nd,rfl⟩⟩))
    go_meet
    case rel => exact ⟨_,(true),(by rfl),H',⟨by omega⟩,⟨by repeat ((with_reducible first | exact HB.out | apply pw_below_drewN))⟩⟩
  ·replace c6:=Bool.eq_false_iff.mpr c6
   subst c6
   have H1 : (spec_HoldsOn.j0 k l0 a1 a2 true) = some (r1,r2):=by rw [if_neg (show ¬ (false = true) by decide)] at H;exact H
   clear H
   have H:=H1
   clear H1
   have H':=Aside0.mk H
   clear H
   go_wp2_with (((with_reducible refine gate_callee (f:=32) rfl ?_);refine goesL_ (some 9) rfl rfl Try.func32 (by kernel_rfl) rfl #[.slice A0 l0.length c0] rfl (by (try simp only [List.map_toArray,List.map_cons,List.map_nil]);rfl) ?_;(with_reducible refine (spec_l20Good.calls k _ _ l0 false _ ?side1 ?side2 A5.out).mono ?_);(case side1 => repeat (exact (Kd.C_below HR0.out HB.out)));(case side2 => exact HC0.out);rintro e w12 ⟨rfl,hb⟩;refine ⟨_,rfl, ?_⟩;have n0_:=Aside0.mk (below_step (by exact HB.out) hb);clear HB;have HB:=n0_;clear n0_;(try clear hb)))
   go_meet
   case rel => exact ⟨_,(true),(by rfl),H',⟨by omega⟩,⟨by exact HB.out⟩⟩
 case rest =>
  clear HC4
  try clear c1
  try clear p2
  try clear c3
  try clear c6
  try clear c8
  obtain ⟨kq,x20_3,rfl,HA,HJ3,HB⟩ := hcut
  cases kq with
  | zero => exact absurd HA.out (by simp [spec_HoldsOn.j0])
  | succ kj3 =>
   have H:=HA.out
   clear HA
   simp only [spec_HoldsOn.j0] at H
   by_cases c13 : x20_3 = true
   ·subst c13
    have H1 : (some (0,false)) = some (r1,r2):=by rw [if_pos rfl] at H;exact H
    clear H
    have H:=H1
    clear H1
    simp only [Option.some.injEq,Prod.mk.injEq] at H
    obtain ⟨rfl,rfl⟩ := H
    go_wp2
    go_ret2
    exact ⟨by rfl,by exact HB.out⟩
   ·replace c13:=Bool.eq_false_iff.mpr c13
    subst c13
    have H1 : ((spec_l20By.f kj3 l0 a2).bind fun t480 => ((spec_l20At.f kj3 l0 t480 a1).bind fun t481 => (some (t481,true)))) = some (r1,r2):=by rw [if_neg (show ¬ (false = true) by decide)] at H;exact H
    clear H
    have H:=H1
    clear H1
    replace H:=Option.bind_eq_some_iff.mp H
    obtain ⟨t480,A140,H⟩ := H
    replace H : ((spec_l20At.f kj3 l0 t480 a1).bind fun t481 => (some (t481,true))) = some (r1,r2):=H
    have A14:=Aside0.mk A140
    clear A140
    replace H:=Option.bind_eq_some_iff.mp H
    obtain ⟨t481,A150,H⟩ := H
    replace H : (some (t481,true)) = some (r1,r2):=H
    have A15:=Aside0.mk A150
    clear A150
    simp only [Option.some.injEq,Prod.mk.injEq] at H
    obtain ⟨rfl,rfl⟩ := H
    go_wp2_with (first | ((with_reducible refine gate_callee (f:=42) rfl ?_);refine goesL_ (some 24) rfl rfl Try.func42 (by kernel_rfl) rfl #[.slice A0 l0.length c0, .int .i64 a2] rfl (by (try simp only [List.map_toArray,List.map_cons,List.map_nil]);rfl) ?_;(with_reducible refine (spec_l20By.calls kj3 _ _ l0 a2 t480 _ ?side1 ?side2 A14.out).mono ?_);(case side1 => repeat (exact (Kd.C_below HR0.out HB.out)));(case side2 => exact HC0.out);rintro e w' ⟨rfl,⟨nd,rfl⟩⟩;refine ⟨_,rfl, ?_⟩) | ((with_reducible refine gate_callee (f:=35) rfl ?_);refine goesL_ (some 26) rfl rfl Try.func35 (by kernel_rfl) rfl #[.slice A0 l0.length c0, .int .i64 t480, .string a1] rfl (by (try simp only [List.map_toArray,List.map_cons,List.map_nil]);rfl) ?_;(with_reducible refine (spec_l20At.calls kj3 _ _ l0 t480 a1 t481 _ ?side1 ?side2 A15.out).mono ?_);(case side1 => repeat (exact (Kd.C_below HR0.out (by repeat ((with_reducible first | exact HB.out | apply pw_below_drewN))))));(case side2 => exact HC0.out);rintro e w' ⟨rfl,⟨nd,rfl⟩⟩;refine ⟨_,rfl, ?_⟩))
    go_ret2
    exact ⟨by rfl,by repeat ((with_reducible first | exact HB.out | apply pw_below_drewN))⟩

/-! ### spec_DrawHoldNames: function 19 -/
def spec_DrawHoldNames.f (l0 : List Int) : Option (Int):=(spec_l1Cur_pick.f l0 0 0 18).bind fun bt483 => (some (wrap64 (bt483.1 - 1)))
set_option maxHeartbeats 8000000 in
set_option maxRecDepth 100000 in
theorem spec_DrawHoldNames.calls (A0 : Option Addr) (c0 : Nat) (l0 : List Int) (r : Int) (w : World) (hr0 : Kd.C (Kd.int .u8) w A0 l0.length l0) (hc0 : l0.length ≤ c0) (h : spec_DrawHoldNames.f l0 = some r) :
  Calls Try.prog 19 #[.slice A0 l0.length c0] w fun e w' => e = .returned (.int .i64 r) ∧ Below w.heap.size w w':=by
 have hu61:=Try.underlying61
 have HR0:=Aside0.mk hr0
 have HC0:=Aside0.mk hc0
 clear hr0 hc0
 have HB:=Aside0.mk (Below.refl w.heap.size w)
 have H : ((spec_l1Cur_pick.f l0 0 0 18).bind fun bt483 => (some (wrap64 (bt483.1 - 1)))) = some r:=h
 clear h
 replace H:=Option.bind_eq_some_iff.mp H
 obtain ⟨⟨t483,t484,t485⟩,A20,H⟩ := H
 replace H : (some (wrap64 (t483 - 1))) = some r:=H
 have A2:=Aside0.mk A20
 clear A20
 obtain rfl:=Option.some.inj H
 go_enter Try.func19,Try.ntmps19
 go_wp2_with (first | ((with_reducible refine gate_dst (N:=6) rfl ?_);refine box_event ?hg (N:=6) ?hd (cs:=#[.slice A0 l0.length c0, .int .i64 0, .int .u64 0]) (t:=61) ?hr ?_;(case hd => rfl);(case hg => rfl);(case hr => (go_simp;done));intro gb482 hg w3 hbox hb;have n0_:=Aside0.mk (below_step (by exact HB.out) hb);have n1_:=Aside0.mk ((show IsS61 w _ gb482 l0 0 0 from ⟨_,_,hbox,(by rw [hg];exact (below_size (by exact HB.out)) : w.heap.size ≤ gb482),HR0.out⟩));clear HB;have HB:=n0_;have HI482:=n1_;clear n0_ n1_;clear hb hbox hg) | ((with_reducible refine gate_callee (f:=45) rfl ?_);refine goesL_ (some 8) rfl rfl Try.func45 (by kernel_rfl) rfl #[.pointer (some ⟨gb482,0,none⟩), .int .i64 18] rfl (by (try simp only [List.map_toArray,List.map_cons,List.map_nil]);rfl) ?_;(with_reducible refine (spec_l1Cur_pick.calls gb482 l0 0 0 18 t483 t484 t485 w _ ?side1 ?side2 A2.out).mono ?_);(case side1 => exact HI482.out);(case side2 => exact HB.out);rintro e w4 ⟨rfl,hi,hb,hk⟩;refine ⟨_,rfl, ?_⟩;have n0_:=Aside0.mk (hb);have n1_:=Aside0.mk (hi);clear HB;clear HI482;have HB:=n0_;have HI482:=n1_;clear n0_ n1_;(try clear hb);(try clear hk);(try clear hi)))
 go_ret
 exact ⟨by rfl,by exact HB.out⟩

/-! ### spec_HoldNames: function 20 -/
def spec_HoldNames.l0 : Nat → Int → List ByteArray → ByteArray → Int → Option (ByteArray × Bool)
 | 0,_,_,_,_ => none
 | k + 1,x0,x4,x5,x6 => if x6 < 4 then (if 0 ≤ (IntKind.u64.wrap (x6)) then (if (Go.bits .and .i64 (shr .i64 x0 (IntKind.u64.wrap (x6))) 1) = 0 then (spec_HoldNames.l0 k x0 x4 x5 (wrap64 (x6 + 1))) else (if x5.toList = ([] : List UInt8) then (if 0 ≤ x6 then (if x6 < (x4.length : Int) then (if x5.size + (rdOf ByteArray.empty x4 x6).size ≤ 9223372036854775807 then (spec_HoldNames.l0 k x0 x4 (x5 ++ (rdOf ByteArray.empty x4 x6)) (wrap64 (x6 + 1))) else (none)) else (none)) else (none)) else (if x5.size + 2 ≤ 9223372036854775807 then (if 0 ≤ x6 then (if x6 < (x4.length : Int) then (if (x5 ++ (⟨#[44,32]⟩ : ByteArray)).size + (rdOf ByteArray.empty x4 x6).size ≤ 9223372036854775807 then (spec_HoldNames.l0 k x0 x4 ((x5 ++ (⟨#[44,32]⟩ : ByteArray)) ++ (rdOf ByteArray.empty x4 x6)) (wrap64 (x6 + 1))) else (none)) else (none)) else (none)) else (none)))) else (none)) else (if x5.toList = ([] : List UInt8) then (some ((⟨#[110,111,110,101]⟩ : ByteArray),true)) else (some (x5,true)))
def spec_HoldNames.f (k : Nat) (a0 : Int) : Option (ByteArray × Bool):=(spec_l1In.f a0 0 15).bind fun t486 => (if t486 = true then (spec_HoldNames.l0 k a0 (([(⟨#[100,111,99,117,109,101,110,116,115]⟩ : ByteArray),(⟨#[105,110,115,112,101,99,116,105,111,110]⟩ : ByteArray),(⟨#[100,117,116,105,101,115]⟩ : ByteArray),(⟨#[113,117,97,114,97,110,116,105,110,101]⟩ : ByteArray)] : List ByteArray)) (⟨#[]⟩ : ByteArray) 0) else (some ((⟨#[]⟩ : ByteArray),false)))
theorem spec_HoldNames.mono_l : ∀ k,(∀ y0 y1 y2 y3,LeO (spec_HoldNames.l0 k y0 y1 y2 y3) (spec_HoldNames.l0 (k + 1) y0 y1 y2 y3))
 | 0 => fun _ _ _ _ r h => by simp [spec_HoldNames.l0] at h
 | k + 1 => by
  have ih0:=spec_HoldNames.mono_l k
  ·intro y0 y1 y2 y3
   unfold spec_HoldNames.l0
   repeat' first
   | (with_reducible exact ih0 _ _ _ _)
   | (with_reducible exact LeO.refl _)
   | (with_reducible exact LeO.none _)
   | (with_reducible refine LeO.ite ?_ ?_)
   | (with_reducible refine LeO.bind ?_ (fun _ => ?_))
   | exact ih0 _ _ _ _
   | exact LeO.none _
   | refine LeO.ite ?_ ?_
   | refine LeO.bind ?_ (fun _ => ?_)
theorem spec_HoldNames.mono : ∀ a0 k,LeO (spec_HoldNames.f k a0) (spec_HoldNames.f (k + 1) a0):=by
 intro a0 k
 have ih0:=spec_HoldNames.mono_l k
 unfold spec_HoldNames.f
 repeat' first
   | (with_reducible exact ih0 _ _ _ _)
   | (with_reducible exact LeO.refl _)
   | (with_reducible exact LeO.none _)
   | (with_reducible refine LeO.ite ?_ ?_)
   | (with_reducible refine LeO.bind ?_ (fun _ => ?_))
   | exact ih0 _ _ _ _
   | exact LeO.none _
   | refine LeO.ite ?_ ?_
   | refine LeO.bind ?_ (fun _ => ?_)
set_option maxHeartbeats 8000000 in
set_option maxRecDepth 100000 in
theorem spec_HoldNames.calls (k : Nat) (a0 : Int) (r1 : ByteArray) (r2 : Bool) (w : World) (h : spec_HoldNames.f k a0 = some (r1,r2)) :
  Calls Try.prog 20 #[.int .i64 a0] w fun e w' => e = .returned (.tuple #[.string r1, .bool r2]) ∧ Below w.heap.size w w':=by
 have HB:=Aside0.mk (Below.refl w.heap.size w)
 have H : ((spec_l1In.f a0 0 15).bind fun t486 => (if t486 = true then (spec_HoldNames.l0 k a0 (([(⟨#[100,111,99,117,109,101,110,116,115]⟩ : ByteArray),(⟨#[105,110,115,112,101,99,116,105,111,110]⟩ : ByteArray),(⟨#[100,117,116,105,101,115]⟩ : ByteArray),(⟨#[113,117,97,114,97,110,116,105,110,101]⟩ : ByteArray)] : List ByteArray)) (⟨#[]⟩ : ByteArray) 0) else (some ((⟨#[]⟩ : ByteArray),false)))) = some (r1,r2):=h
 clear h
 replace H:=Option.bind_eq_some_iff.mp H
 obtain ⟨t486,A20,H⟩ := H
 replace H : (if t486 = true then (spec_HoldNames.l0 k a0 (([(⟨#[100,111,99,117,109,101,110,116,115]⟩ : ByteArray),(⟨#[105,110,115,112,101,99,116,105,111,110]⟩ : ByteArray),(⟨#[100,117,116,105,101,115]⟩ : ByteArray),(⟨#[113,117,97,114,97,110,116,105,110,101]⟩ : ByteArray)] : List ByteArray)) (⟨#[]⟩ : ByteArray) 0) else (some ((⟨#[]⟩ : ByteArray),false))) = some (r1,r2):=H
 have A2:=Aside0.mk A20
 clear A20
 by_cases c3 : t486 = true
 ·subst c3
  have H1 : (spec_HoldNames.l0 k a0 (([(⟨#[100,111,99,117,109,101,110,116,115]⟩ : ByteArray),(⟨#[105,110,115,112,101,99,116,105,111,110]⟩ : ByteArray),(⟨#[100,117,116,105,101,115]⟩ : ByteArray),(⟨#[113,117,97,114,97,110,116,105,110,101]⟩ : ByteArray)] : List ByteArray)) (⟨#[]⟩ : ByteArray) 0) = some (r1,r2):=by rw [if_pos rfl] at H;exact H
  clear H
  have H:=H1
  clear H1
  obtain ⟨y487,hy487⟩ : ∃ y_ : List ByteArray,y_ = (([(⟨#[100,111,99,117,109,101,110,116,115]⟩ : ByteArray),(⟨#[105,110,115,112,101,99,116,105,111,110]⟩ : ByteArray),(⟨#[100,117,116,105,101,115]⟩ : ByteArray),(⟨#[113,117,97,114,97,110,116,105,110,101]⟩ : ByteArray)] : List ByteArray)):=⟨_,rfl⟩
  replace H : (spec_HoldNames.l0 k a0 y487 (⟨#[]⟩ : ByteArray) 0) = some (r1,r2):=by (rw [hy487];with_reducible exact H)
  have Ny487:=Aside0.mk hy487
  clear hy487
  have H':=Aside0.mk H
  clear H
  go_enter Try.func20,Try.ntmps20
  go_wp2_with (first | ((with_reducible refine gate_callee (f:=46) rfl ?_);refine goesL_ (some 8) rfl rfl Try.func46 (by kernel_rfl) rfl #[.int .i64 a0, .int .i64 0, .int .i64 15] rfl (by (try simp only [List.map_toArray,List.map_cons,List.map_nil]);rfl) ?_;(with_reducible refine (spec_l1In.calls a0 0 15 true _ A2.out).mono ?_);rintro e w' ⟨rfl,⟨nd,rfl⟩⟩;refine ⟨_,rfl, ?_⟩) | ((with_reducible refine gate_dst (N:=10) rfl ?_);refine Kd.R_lit Kd.string _ 9 ?hg (N:=10) ?hd (xs:=([(⟨#[100,111,99,117,109,101,110,116,115]⟩ : ByteArray),(⟨#[105,110,115,112,101,99,116,105,111,110]⟩ : ByteArray),(⟨#[100,117,116,105,101,115]⟩ : ByteArray),(⟨#[113,117,97,114,97,110,116,105,110,101]⟩ : ByteArray)] : List ByteArray)) (inner := [.string (⟨#[100,111,99,117,109,101,110,116,115]⟩ : ByteArray), .string (⟨#[105,110,115,112,101,99,116,105,111,110]⟩ : ByteArray), .string (⟨#[100,117,116,105,101,115]⟩ : ByteArray), .string (⟨#[113,117,97,114,97,110,116,105,110,101]⟩ : ByteArray)]) (ok:=fun _ => True) (okp:=fun _ => True) ?hr ?hp (fun _ hk => hk) trivial (Below.refl _ _) (Nat.le_refl _) (by simp) ?_;(case hd => rfl);(case hg => rfl);(case hr => (go_simp;done));(case hp => exact (Reps.one (show Kd.M Kd.string _ _ _ (⟨#[100,111,99,117,109,101,110,116,115]⟩ : ByteArray) [.string (⟨#[100,111,99,117,109,101,110,116,115]⟩ : ByteArray)] from rfl) (Reps.one (show Kd.M Kd.string _ _ _ (⟨#[105,110,115,112,101,99,116,105,111,110]⟩ : ByteArray) [.string (⟨#[105,110,115,112,101,99,116,105,111,110]⟩ : ByteArray)] from rfl) (Reps.one (show Kd.M Kd.string _ _ _ (⟨#[100,117,116,105,101,115]⟩ : ByteArray) [.string (⟨#[100,117,116,105,101,115]⟩ : ByteArray)] from rfl) (Reps.one (show Kd.M Kd.string _ _ _ (⟨#[113,117,97,114,97,110,116,105,110,101]⟩ : ByteArray) [.string (⟨#[113,117,97,114,97,110,116,105,110,101]⟩ : ByteArray)] from rfl) (Reps.none _ _))))));intro v488 w4 ho5 hb hg_ hnew_;clear hg_ hnew_;(rw [← Ny487.out] at ho5);have n0_:=Aside0.mk (Kd.R_lower ho5 (below_size (by repeat ((with_reducible first | exact HB.out | apply pw_below_drewN)))));have n1_:=Aside0.mk (below_step (by repeat ((with_reducible first | exact HB.out | apply pw_below_drewN))) hb);clear HB;have HO489:=n0_;have HB:=n1_;clear n0_ n1_;clear hb ho5))
  (skip)
  go_loopg [5,6] k (fun kq v5 v6 w' => ∃ (x5_1 : ByteArray) (x6_1 : Int),v5 = .string x5_1 ∧ v6 = .int .i64 x6_1 ∧ Aside0 (spec_HoldNames.l0 kq a0 y487 x5_1 x6_1 = some (r1,r2)) ∧ Aside0 (kq ≤ k) ∧ Aside0 (Kd.R Kd.string 9 w' w.heap.size (fun _ => True) v488 y487) ∧ Aside0 (Below w.heap.size w w'))
  case atStart => exact ⟨((⟨#[]⟩ : ByteArray)),(0),(by rfl),(by rfl),H',⟨Nat.le_refl _⟩,⟨by exact HO489.out⟩,⟨by exact HB.out⟩⟩
  case round =>
   clear H'
   try clear c2
   try clear p2
   try clear c3
   try clear c4
   obtain ⟨x5_1,x6_1,rfl,rfl,HA,HK1,HO_4,HB⟩ := hrel
   cases gk with
   | zero => exact absurd HA.out (by simp [spec_HoldNames.l0])
   | succ k1 =>
    have H:=HA.out
    clear HA
    simp only [spec_HoldNames.l0] at H
    by_cases c6 : x6_1 < 4
    ·rw [if_pos c6] at H
     have c6b0 : decide (x6_1 < 4) = true:=decide_eq_true c6
     clear c6
     obtain ⟨ji7,hji7⟩ : ∃ j_ : Int,(IntKind.u64.wrap (x6_1)) = j_:=⟨_,rfl⟩
     replace H : (if 0 ≤ (ji7) then (if (Go.bits .and .i64 (shr .i64 a0 (ji7)) 1) = 0 then (spec_HoldNames.l0 k1 a0 y487 x5_1 (wrap64 (x6_1 + 1))) else (if x5_1.toList = ([] : List UInt8) then (if 0 ≤ x6_1 then (if x6_1 < (y487.length : Int) then (if x5_1.size + (rdOf ByteArray.empty y487 x6_1).size ≤ 9223372036854775807 then (spec_HoldNames.l0 k1 a0 y487 (x5_1 ++ (rdOf ByteArray.empty y487 x6_1)) (wrap64 (x6_1 + 1))) else (none)) else (none)) else (none)) else (if x5_1.size + 2 ≤ 9223372036854775807 then (if 0 ≤ x6_1 then (if x6_1 < (y487.length : Int) then (if (x5_1 ++ (⟨#[44,32]⟩ : ByteArray)).size + (rdOf ByteArray.empty y487 x6_1).size ≤ 9223372036854775807 then (spec_HoldNames.l0 k1 a0 y487 ((x5_1 ++ (⟨#[44,32]⟩ : ByteArray)) ++ (rdOf ByteArray.empty y487 x6_1)) (wrap64 (x6_1 + 1))) else (none)) else (none)) else (none)) else (none)))) else (none)) = some (r1,r2):=by (rw [hji7] at H;exact H)
     by_cases c8 : 0 ≤ (ji7)
     ·rw [if_pos c8] at H
      have c8b0:=eq_true c8
      have c8b1 : decide (0 ≤ (ji7)) = true:=decide_eq_true c8
      clear c8
      obtain ⟨ji9,hji9⟩ : ∃ j_ : Int,(shr .i64 a0 (ji7)) = j_:=⟨_,rfl⟩
      replace H : (if (Go.bits .and .i64 (ji9) 1) = 0 then (spec_HoldNames.l0 k1 a0 y487 x5_1 (wrap64 (x6_1 + 1))) else (if x5_1.toList = ([] : List UInt8) then (if 0 ≤ x6_1 then (if x6_1 < (y487.length : Int) then (if x5_1.size + (rdOf ByteArray.empty y487 x6_1).size ≤ 9223372036854775807 then (spec_HoldNames.l0 k1 a0 y487 (x5_1 ++ (rdOf ByteArray.empty y487 x6_1)) (wrap64 (x6_1 + 1))) else (none)) else (none)) else (none)) else (if x5_1.size + 2 ≤ 9223372036854775807 then (if 0 ≤ x6_1 then (if x6_1 < (y487.length : Int) then (if (x5_1 ++ (⟨#[44,32]⟩ : ByteArray)).size + (rdOf ByteArray.empty y487 x6_1).size ≤ 9223372036854775807 then (spec_HoldNames.l0 k1 a0 y487 ((x5_1 ++ (⟨#[44,32]⟩ : ByteArray)) ++ (rdOf ByteArray.empty y487 x6_1)) (wrap64 (x6_1 + 1))) else (none)) else (none)) else (none)) else (none)))) = some (r1,r2):=by (rw [hji9] at H;exact H)
      have hji9_ : (a0 / 2 ^ min (ji7).toNat 64) = ji9:=hji9
      have hji9z : (ji7) ≤ 64 → (a0 / 2 ^ (ji7).toNat) = ji9:=shr_small hji9
      by_cases c10 : (Go.bits .and .i64 (ji9) 1) = 0
      ·rw [if_pos c10] at H
       have c10b0 : ((Go.bits .and .i64 (ji9) 1) == 0) = true:=beq_iff_eq.mpr c10
       have c10b1 : ((Go.bits .and .i64 (ji9) 1) != 0) = false:=bne_eq_false_iff_eq.mpr c10
       clear c10
       have H':=Aside0.mk H
       clear H
       go_wp2
       go_roundg k1
       case measure => have:=HK1.out;omega
       case rel => exact ⟨(x5_1),(wrap64 (x6_1 + 1)),(by rfl),(by rfl),H',⟨by have:=HK1.out;omega⟩,⟨by exact HO_4.out⟩,⟨by exact HB.out⟩⟩
      ·rw [if_neg c10] at H
       have c10b0 : ((Go.bits .and .i64 (ji9) 1) == 0) = false:=beq_eq_false_iff_ne.mpr c10
       have c10b1 : ((Go.bits .and .i64 (ji9) 1) != 0) = true:=bne_iff_ne.mpr c10
       by_cases c11 : x5_1.toList = ([] : List UInt8)
       ·rw [if_pos c11] at H
        have c11b0 : (x5_1.toList == ([] : List UInt8)) = true:=beq_iff_eq.mpr c11
        have c11b1 : (x5_1.toList != ([] : List UInt8)) = false:=bne_eq_false_iff_eq.mpr c11
        clear c11
        by_cases c12 : 0 ≤ x6_1
        ·rw [if_pos c12] at H
         have c12b0 : decide (0 ≤ x6_1) = true:=decide_eq_true c12
         clear c12
         by_cases c13 : x6_1 < (y487.length : Int)
         ·rw [if_pos c13] at H
          have c13b0 : decide (x6_1 < (y487.length : Int)) = true:=decide_eq_true c13
          clear c13
          by_cases c14 : x5_1.size + (rdOf ByteArray.empty y487 x6_1).size ≤ 9223372036854775807
          ·rw [if_pos c14] at H
           have c14b0:=eq_true c14
           have c14b1 : decide (x5_1.size + (rdOf ByteArray.empty y487 x6_1).size ≤ 9223372036854775807) = true:=decide_eq_true c14
           try have c14b2 : (9223372036854775807 < x5_1.size + (rdOf ByteArray.empty y487 x6_1).size) = False:=eq_false (Nat.not_lt.2 c14)
           have H':=Aside0.mk H
           clear H
           obtain ⟨Ao15,co15,eo15⟩ := Kd.R_slice HO_4.out
           subst eo15
           have p490 : 0 ≤ (x6_1 : Int):=of_decide_eq_true (by (with_reducible assumption))
           have q490 : x6_1 < (y487.length : Int):=of_decide_eq_true (by (with_reducible assumption))
           obtain ⟨ad490,e490,hx490_0⟩ := Kd.at_string (Kd.R_reads' HO_4.out).2.2 x6_1 p490 q490
           cases e490
           replace p490:=eq_true p490
           replace q490:=eq_true q490
           go_wp2
           go_roundg k1
           case measure => have:=HK1.out;omega
           case rel => exact ⟨(x5_1 ++ (rdOf ByteArray.empty y487 x6_1)),(wrap64 (x6_1 + 1)),(by rfl),(by rfl),H',⟨by have:=HK1.out;omega⟩,⟨by exact HO_4.out⟩,⟨by exact HB.out⟩⟩
          ·rw [if_neg c14] at H
           exact absurd H (by simp)
         ·rw [if_neg c13] at H
          exact absurd H (by simp)
        ·rw [if_neg c12] at H
         exact absurd H (by simp)
       ·rw [if_neg c11] at H
        have c11b0 : (x5_1.toList == ([] : List UInt8)) = false:=beq_eq_false_iff_ne.mpr c11
        have c11b1 : (x5_1.toList != ([] : List UInt8)) = true:=bne_iff_ne.mpr c11
        by_cases c16 : x5_1.size + 2 ≤ 9223372036854775807
        ·rw [if_pos c16] at H
         have c16b0:=eq_true c16
         have c16b1 : decide (x5_1.size + 2 ≤ 9223372036854775807) = true:=decide_eq_true c16
         try have c16b2 : (9223372036854775807 < x5_1.size + 2) = False:=eq_false (Nat.not_lt.2 c16)
         by_cases c17 : 0 ≤ x6_1
         ·rw [if_pos c17] at H
          have c17b0 : decide (0 ≤ x6_1) = true:=decide_eq_true c17
          clear c17
          by_cases c18 : x6_1 < (y487.length : Int)
          ·rw [if_pos c18] at H
           have c18b0 : decide (x6_1 < (y487.length : Int)) = true:=decide_eq_true c18
           clear c18
           by_cases c19 : (x5_1 ++ (⟨#[44,32]⟩ : ByteArray)).size + (rdOf ByteArray.empty y487 x6_1).size ≤ 9223372036854775807
           ·rw [if_pos c19] at H
            have c19b0:=eq_true c19
            have c19b1 : decide ((x5_1 ++ (⟨#[44,32]⟩ : ByteArray)).size + (rdOf ByteArray.empty y487 x6_1).size ≤ 9223372036854775807) = true:=decide_eq_true c19
            try have c19b2 : (9223372036854775807 < (x5_1 ++ (⟨#[44,32]⟩ : ByteArray)).size + (rdOf ByteArray.empty y487 x6_1).size) = False:=eq_false (Nat.not_lt.2 c19)
            have H':=Aside0.mk H
            clear H
            obtain ⟨Ao20,co20,eo20⟩ := Kd.R_slice HO_4.out
            subst eo20
            have p491 : 0 ≤ (x6_1 : Int):=of_decide_eq_true (by (with_reducible assumption))
            have q491 : x6_1 < (y487.length : Int):=of_decide_eq_true (by (with_reducible assumption))
            obtain ⟨ad491,e491,hx491_0⟩ := Kd.at_string (Kd.R_reads' HO_4.out).2.2 x6_1 p491 q491
            cases e491
            replace p491:=eq_true p491
            replace q491:=eq_true q491
            go_wp2
            go_roundg k1
            case measure => have:=HK1.out;omega
            case rel => exact ⟨((x5_1 ++ (⟨#[44,32]⟩ : ByteArray)) ++ (rdOf ByteArray.empty y487 x6_1)),(wrap64 (x6_1 + 1)),(by rfl),(by rfl),H',⟨by have:=HK1.out;omega⟩,⟨by exact HO_4.out⟩,⟨by exact HB.out⟩⟩
           ·rw [if_neg c19] at H
            exact absurd H (by simp)
          ·rw [if_neg c18] at H
           exact absurd H (by simp)
         ·rw [if_neg c17] at H
          exact absurd H (by simp)
        ·rw [if_neg c16] at H
         exact absurd H (by simp)
     ·rw [if_neg c8] at H
      exact absurd H (by simp)
    ·rw [if_neg c6] at H
     have c6b0 : decide (x6_1 < 4) = false:=decide_eq_false c6
     clear c6
     by_cases c21 : x5_1.toList = ([] : List UInt8)
     ·rw [if_pos c21] at H
      have c21b0 : (x5_1.toList == ([] : List UInt8)) = true:=beq_iff_eq.mpr c21
      have c21b1 : (x5_1.toList != ([] : List UInt8)) = false:=bne_eq_false_iff_eq.mpr c21
      clear c21
      simp only [Option.some.injEq,Prod.mk.injEq] at H
      obtain ⟨rfl,rfl⟩ := H
      go_wp2
      go_ret2
      exact ⟨by rfl,by exact HB.out⟩
     ·rw [if_neg c21] at H
      have c21b0 : (x5_1.toList == ([] : List UInt8)) = false:=beq_eq_false_iff_ne.mpr c21
      have c21b1 : (x5_1.toList != ([] : List UInt8)) = true:=bne_iff_ne.mpr c21
      simp only [Option.some.injEq,Prod.mk.injEq] at H
      obtain ⟨rfl,rfl⟩ := H
      go_wp2
      go_ret2
      exact ⟨by rfl,by exact HB.out⟩
 ·replace c3:=Bool.eq_false_iff.mpr c3
  subst c3
  have H1 : (some ((⟨#[]⟩ : ByteArray),false)) = some (r1,r2):=by rw [if_neg (show ¬ (false = true) by decide)] at H;exact H
  clear H
  have H:=H1
  clear H1
  simp only [Option.some.injEq,Prod.mk.injEq] at H
  obtain ⟨rfl,rfl⟩ := H
  go_enter Try.func20,Try.ntmps20
  go_wp2_with (((with_reducible refine gate_callee (f:=46) rfl ?_);refine goesL_ (some 8) rfl rfl Try.func46 (by kernel_rfl) rfl #[.int .i64 a0, .int .i64 0, .int .i64 15] rfl (by (try simp only [List.map_toArray,List.map_cons,List.map_nil]);rfl) ?_;(with_reducible refine (spec_l1In.calls a0 0 15 false _ A2.out).mono ?_);rintro e w' ⟨rfl,⟨nd,rfl⟩⟩;refine ⟨_,rfl, ?_⟩))
  go_ret2
  exact ⟨by rfl,by repeat ((with_reducible first | exact HB.out | apply pw_below_drewN))⟩

end Go.Proofs.Yteebkbikpamkmaa.PFnHolds
