-- Written by a program of this session, over the kit's print (wip/xprint.py)
import Derived.Test.YtpelcaijjdgnoaaDoorPFnReadingsx0
import Derived.Test.YtpelcaijjdgnoaaDoorPFnReadingsx2
namespace Go.Proofs.YtpelcaijjdgnoaaDoor.PFnReadings
open Go.RowKit Go.Proofs.YtpelcaijjdgnoaaDoorW.PrintWords Go.Proofs.YtpelcaijjdgnoaaDoorW.PrintLast Go.Proofs.YtpelcaijjdgnoaaDoorW.PrintMore
attribute [local go_sem] max2_int min2_int max_two min_two max_three min_three max_four min_four   -- for this text's walks alone
set_option linter.unusedVariables false
set_option linter.unusedSimpArgs false

/-! ### spec_l21Text: function 27 -/
def spec_l21Text.f (k : Nat) (a0 : Int) : Option (ByteArray):=if a0 < 0 then ((spec_l1Num.f k (wrap64 (Int.tdiv (wrap64 (-a0)) 10))).bind fun t130 => (if 1 + t130.size ≤ 9223372036854775807 then (if ((⟨#[45]⟩ : ByteArray) ++ t130).size + 1 ≤ 9223372036854775807 then ((spec_l1Num.f k (Int.tmod (wrap64 (-a0)) 10)).bind fun t131 => (if (((⟨#[45]⟩ : ByteArray) ++ t130) ++ (⟨#[46]⟩ : ByteArray)).size + t131.size ≤ 9223372036854775807 then (some ((((⟨#[45]⟩ : ByteArray) ++ t130) ++ (⟨#[46]⟩ : ByteArray)) ++ t131)) else (none))) else (none)) else (none))) else ((spec_l1Num.f k (wrap64 (Int.tdiv a0 10))).bind fun t132 => (if 0 + t132.size ≤ 9223372036854775807 then (if ((⟨#[]⟩ : ByteArray) ++ t132).size + 1 ≤ 9223372036854775807 then ((spec_l1Num.f k (Int.tmod a0 10)).bind fun t133 => (if (((⟨#[]⟩ : ByteArray) ++ t132) ++ (⟨#[46]⟩ : ByteArray)).size + t133.size ≤ 9223372036854775807 then (some ((((⟨#[]⟩ : ByteArray) ++ t132) ++ (⟨#[46]⟩ : ByteArray)) ++ t133)) else (none))) else (none)) else (none)))
theorem spec_l21Text.mono : ∀ a0 k,LeO (spec_l21Text.f k a0) (spec_l21Text.f (k + 1) a0):=by
 intro a0 k
 unfold spec_l21Text.f
 repeat' first
   | (with_reducible exact spec_l1Num.mono _ _)
   | (with_reducible exact LeO.refl _)
   | (with_reducible exact LeO.none _)
   | (with_reducible refine LeO.ite ?_ ?_)
   | (with_reducible refine LeO.bind ?_ (fun _ => ?_))
   | exact spec_l1Num.mono _ _
   | exact LeO.none _
   | refine LeO.ite ?_ ?_
   | refine LeO.bind ?_ (fun _ => ?_)
set_option maxHeartbeats 8000000 in
set_option maxRecDepth 100000 in
theorem spec_l21Text.calls (k : Nat) (a0 : Int) (r : ByteArray) (w : World) (h : spec_l21Text.f k a0 = some r) :
  Calls Tryd.prog 27 #[.int .i64 a0] w fun e w' => e = .returned (.string r) ∧ Below w.heap.size w w':=by
 have HB:=Aside0.mk (Below.refl w.heap.size w)
 have H : (if a0 < 0 then ((spec_l1Num.f k (wrap64 (Int.tdiv (wrap64 (-a0)) 10))).bind fun t130 => (if 1 + t130.size ≤ 9223372036854775807 then (if ((⟨#[45]⟩ : ByteArray) ++ t130).size + 1 ≤ 9223372036854775807 then ((spec_l1Num.f k (Int.tmod (wrap64 (-a0)) 10)).bind fun t131 => (if (((⟨#[45]⟩ : ByteArray) ++ t130) ++ (⟨#[46]⟩ : ByteArray)).size + t131.size ≤ 9223372036854775807 then (some ((((⟨#[45]⟩ : ByteArray) ++ t130) ++ (⟨#[46]⟩ : ByteArray)) ++ t131)) else (none))) else (none)) else (none))) else ((spec_l1Num.f k (wrap64 (Int.tdiv a0 10))).bind fun t132 => (if 0 + t132.size ≤ 9223372036854775807 then (if ((⟨#[]⟩ : ByteArray) ++ t132).size + 1 ≤ 9223372036854775807 then ((spec_l1Num.f k (Int.tmod a0 10)).bind fun t133 => (if (((⟨#[]⟩ : ByteArray) ++ t132) ++ (⟨#[46]⟩ : ByteArray)).size + t133.size ≤ 9223372036854775807 then (some ((((⟨#[]⟩ : ByteArray) ++ t132) ++ (⟨#[46]⟩ : ByteArray)) ++ t133)) else (none))) else (none)) else (none)))) = some r:=h
 clear h
 by_cases c2 : a0 < 0
 ·rw [if_pos c2] at H
  have c2b0 : decide (a0 < 0) = true:=decide_eq_true c2
  clear c2
  replace H:=Option.bind_eq_some_iff.mp H
  obtain ⟨t130,A30,H⟩ := H
  replace H : (if 1 + t130.size ≤ 9223372036854775807 then (if ((⟨#[45]⟩ : ByteArray) ++ t130).size + 1 ≤ 9223372036854775807 then ((spec_l1Num.f k (Int.tmod (wrap64 (-a0)) 10)).bind fun t131 => (if (((⟨#[45]⟩ : ByteArray) ++ t130) ++ (⟨#[46]⟩ : ByteArray)).size + t131.size ≤ 9223372036854775807 then (some ((((⟨#[45]⟩ : ByteArray) ++ t130) ++ (⟨#[46]⟩ : ByteArray)) ++ t131)) else (none))) else (none)) else (none)) = some r:=H
  have A3:=Aside0.mk A30
  clear A30
  by_cases c4 : 1 + t130.size ≤ 9223372036854775807
  ·rw [if_pos c4] at H
   have c4b0:=eq_true c4
   have c4b1 : decide (1 + t130.size ≤ 9223372036854775807) = true:=decide_eq_true c4
   try have c4b2 : (9223372036854775807 < 1 + t130.size) = False:=eq_false (Nat.not_lt.2 c4)
   by_cases c5 : ((⟨#[45]⟩ : ByteArray) ++ t130).size + 1 ≤ 9223372036854775807
   ·rw [if_pos c5] at H
    have c5b0:=eq_true c5
    have c5b1 : decide (((⟨#[45]⟩ : ByteArray) ++ t130).size + 1 ≤ 9223372036854775807) = true:=decide_eq_true c5
    try have c5b2 : (9223372036854775807 < ((⟨#[45]⟩ : ByteArray) ++ t130).size + 1) = False:=eq_false (Nat.not_lt.2 c5)
    try have c5b4 : (9223372036854775807 < 1 + t130.size + 1) = False:=by have h_:=c5;simp only [ByteArray.size_append,show (⟨#[45]⟩ : ByteArray).size = 1 from rfl] at h_;exact eq_false (by omega)
    replace H:=Option.bind_eq_some_iff.mp H
    obtain ⟨t131,A60,H⟩ := H
    replace H : (if (((⟨#[45]⟩ : ByteArray) ++ t130) ++ (⟨#[46]⟩ : ByteArray)).size + t131.size ≤ 9223372036854775807 then (some ((((⟨#[45]⟩ : ByteArray) ++ t130) ++ (⟨#[46]⟩ : ByteArray)) ++ t131)) else (none)) = some r:=H
    have A6:=Aside0.mk A60
    clear A60
    by_cases c7 : (((⟨#[45]⟩ : ByteArray) ++ t130) ++ (⟨#[46]⟩ : ByteArray)).size + t131.size ≤ 9223372036854775807
    ·rw [if_pos c7] at H
     have c7b0:=eq_true c7
     have c7b1 : decide ((((⟨#[45]⟩ : ByteArray) ++ t130) ++ (⟨#[46]⟩ : ByteArray)).size + t131.size ≤ 9223372036854775807) = true:=decide_eq_true c7
     try have c7b2 : (9223372036854775807 < (((⟨#[45]⟩ : ByteArray) ++ t130) ++ (⟨#[46]⟩ : ByteArray)).size + t131.size) = False:=eq_false (Nat.not_lt.2 c7)
     try have c7b4 : (9223372036854775807 < 1 + t130.size + 1 + t131.size) = False:=by have h_:=c7;simp only [ByteArray.size_append,show (⟨#[45]⟩ : ByteArray).size = 1 from rfl,show (⟨#[46]⟩ : ByteArray).size = 1 from rfl] at h_;exact eq_false (by omega)
     obtain rfl:=Option.some.inj H
     go_enter Tryd.func27,Tryd.ntmps27
     go_wp2_with (first | ((with_reducible refine gate_callee (f:=41) rfl ?_);refine goesL_ (some 11) rfl rfl Tryd.func41 (by kernel_rfl) rfl #[.int .i64 (wrap64 (Int.tdiv (wrap64 (-a0)) 10))] rfl (by (try simp only [List.map_toArray,List.map_cons,List.map_nil]);rfl) ?_;(with_reducible refine (spec_l1Num.calls k (wrap64 (Int.tdiv (wrap64 (-a0)) 10)) t130 _ A3.out).mono ?_);rintro e w8 ⟨rfl,hb⟩;refine ⟨_,rfl, ?_⟩;have n0_:=Aside0.mk (below_step (by exact HB.out) hb);clear HB;have HB:=n0_;clear n0_;(try clear hb)) | ((with_reducible refine gate_callee (f:=41) rfl ?_);refine goesL_ (some 16) rfl rfl Tryd.func41 (by kernel_rfl) rfl #[.int .i64 (Int.tmod (wrap64 (-a0)) 10)] rfl (by (try simp only [List.map_toArray,List.map_cons,List.map_nil]);rfl) ?_;(with_reducible refine (spec_l1Num.calls k (Int.tmod (wrap64 (-a0)) 10) t131 _ A6.out).mono ?_);rintro e w9 ⟨rfl,hb⟩;refine ⟨_,rfl, ?_⟩;have n0_:=Aside0.mk (below_step (by exact HB.out) hb);clear HB;have HB:=n0_;clear n0_;(try clear hb)))
     go_ret
     exact ⟨by rfl,by exact HB.out⟩
    ·rw [if_neg c7] at H
     exact absurd H (by simp)
   ·rw [if_neg c5] at H
    exact absurd H (by simp)
  ·rw [if_neg c4] at H
   exact absurd H (by simp)
 ·rw [if_neg c2] at H
  have c2b0 : decide (a0 < 0) = false:=decide_eq_false c2
  clear c2
  replace H:=Option.bind_eq_some_iff.mp H
  obtain ⟨t132,A100,H⟩ := H
  replace H : (if 0 + t132.size ≤ 9223372036854775807 then (if ((⟨#[]⟩ : ByteArray) ++ t132).size + 1 ≤ 9223372036854775807 then ((spec_l1Num.f k (Int.tmod a0 10)).bind fun t133 => (if (((⟨#[]⟩ : ByteArray) ++ t132) ++ (⟨#[46]⟩ : ByteArray)).size + t133.size ≤ 9223372036854775807 then (some ((((⟨#[]⟩ : ByteArray) ++ t132) ++ (⟨#[46]⟩ : ByteArray)) ++ t133)) else (none))) else (none)) else (none)) = some r:=H
  have A10:=Aside0.mk A100
  clear A100
  by_cases c11 : 0 + t132.size ≤ 9223372036854775807
  ·rw [if_pos c11] at H
   have c11b0:=eq_true c11
   have c11b1 : decide (0 + t132.size ≤ 9223372036854775807) = true:=decide_eq_true c11
   try have c11b2 : (9223372036854775807 < 0 + t132.size) = False:=eq_false (Nat.not_lt.2 c11)
   by_cases c12 : ((⟨#[]⟩ : ByteArray) ++ t132).size + 1 ≤ 9223372036854775807
   ·rw [if_pos c12] at H
    have c12b0:=eq_true c12
    have c12b1 : decide (((⟨#[]⟩ : ByteArray) ++ t132).size + 1 ≤ 9223372036854775807) = true:=decide_eq_true c12
    try have c12b2 : (9223372036854775807 < ((⟨#[]⟩ : ByteArray) ++ t132).size + 1) = False:=eq_false (Nat.not_lt.2 c12)
    try have c12b4 : (9223372036854775807 < t132.size + 1) = False:=by have h_:=c12;simp only [ByteArray.size_append,show (⟨#[]⟩ : ByteArray).size = 0 from rfl] at h_;exact eq_false (by omega)
    replace H:=Option.bind_eq_some_iff.mp H
    obtain ⟨t133,A130,H⟩ := H
    replace H : (if (((⟨#[]⟩ : ByteArray) ++ t132) ++ (⟨#[46]⟩ : ByteArray)).size + t133.size ≤ 9223372036854775807 then (some ((((⟨#[]⟩ : ByteArray) ++ t132) ++ (⟨#[46]⟩ : ByteArray)) ++ t133)) else (none)) = some r:=H
    have A13:=Aside0.mk A130
    clear A130
    by_cases c14 : (((⟨#[]⟩ : ByteArray) ++ t132) ++ (⟨#[46]⟩ : ByteArray)).size + t133.size ≤ 9223372036854775807
    ·rw [if_pos c14] at H
     have c14b0:=eq_true c14
     have c14b1 : decide ((((⟨#[]⟩ : ByteArray) ++ t132) ++ (⟨#[46]⟩ : ByteArray)).size + t133.size ≤ 9223372036854775807) = true:=decide_eq_true c14
     try have c14b2 : (9223372036854775807 < (((⟨#[]⟩ : ByteArray) ++ t132) ++ (⟨#[46]⟩ : ByteArray)).size + t133.size) = False:=eq_false (Nat.not_lt.2 c14)
     try have c14b4 : (9223372036854775807 < t132.size + 1 + t133.size) = False:=by have h_:=c14;simp only [ByteArray.size_append,show (⟨#[46]⟩ : ByteArray).size = 1 from rfl,show (⟨#[]⟩ : ByteArray).size = 0 from rfl] at h_;exact eq_false (by omega)
     obtain rfl:=Option.some.inj H
     go_enter Tryd.func27,Tryd.ntmps27
     go_wp2_with (first | ((with_reducible refine gate_callee (f:=41) rfl ?_);refine goesL_ (some 11) rfl rfl Tryd.func41 (by kernel_rfl) rfl #[.int .i64 (wrap64 (Int.tdiv a0 10))] rfl (by (try simp only [List.map_toArray,List.map_cons,List.map_nil]);rfl) ?_;(with_reducible refine (spec_l1Num.calls k (wrap64 (Int.tdiv a0 10)) t132 _ A10.out).mono ?_);rintro e w15 ⟨rfl,hb⟩;refine ⟨_,rfl, ?_⟩;have n0_:=Aside0.mk (below_step (by exact HB.out) hb);clear HB;have HB:=n0_;clear n0_;(try clear hb)) | ((with_reducible refine gate_callee (f:=41) rfl ?_);refine goesL_ (some 16) rfl rfl Tryd.func41 (by kernel_rfl) rfl #[.int .i64 (Int.tmod a0 10)] rfl (by (try simp only [List.map_toArray,List.map_cons,List.map_nil]);rfl) ?_;(with_reducible refine (spec_l1Num.calls k (Int.tmod a0 10) t133 _ A13.out).mono ?_);rintro e w16 ⟨rfl,hb⟩;refine ⟨_,rfl, ?_⟩;have n0_:=Aside0.mk (below_step (by exact HB.out) hb);clear HB;have HB:=n0_;clear n0_;(try clear hb)))
     go_ret
     exact ⟨by rfl,by exact HB.out⟩
    ·rw [if_neg c14] at H
     exact absurd H (by simp)
   ·rw [if_neg c12] at H
    exact absurd H (by simp)
  ·rw [if_neg c11] at H
   exact absurd H (by simp)

/-! ### spec_TenthText: function 7 -/
def spec_TenthText.f (k : Nat) (a0 : Int) : Option (ByteArray × Bool):=(spec_l1In.f a0 (-400) 400).bind fun t134 => (if t134 = true then ((spec_l21Text.f k a0).bind fun t135 => (some (t135,true))) else (some ((⟨#[]⟩ : ByteArray),false)))
theorem spec_TenthText.mono : ∀ a0 k,LeO (spec_TenthText.f k a0) (spec_TenthText.f (k + 1) a0):=by
 intro a0 k
 unfold spec_TenthText.f
 repeat' first
   | (with_reducible exact spec_l21Text.mono _ _)
   | (with_reducible exact LeO.refl _)
   | (with_reducible exact LeO.none _)
   | (with_reducible refine LeO.ite ?_ ?_)
   | (with_reducible refine LeO.bind ?_ (fun _ => ?_))
   | exact spec_l21Text.mono _ _
   | exact LeO.none _
   | refine LeO.ite ?_ ?_
   | refine LeO.bind ?_ (fun _ => ?_)
set_option maxHeartbeats 8000000 in
set_option maxRecDepth 100000 in
theorem spec_TenthText.calls (k : Nat) (a0 : Int) (r1 : ByteArray) (r2 : Bool) (w : World) (h : spec_TenthText.f k a0 = some (r1,r2)) :
  Calls Tryd.prog 7 #[.int .i64 a0] w fun e w' => e = .returned (.tuple #[.string r1, .bool r2]) ∧ Below w.heap.size w w':=by
 have HB:=Aside0.mk (Below.refl w.heap.size w)
 have H : ((spec_l1In.f a0 (-400) 400).bind fun t134 => (if t134 = true then ((spec_l21Text.f k a0).bind fun t135 => (some (t135,true))) else (some ((⟨#[]⟩ : ByteArray),false)))) = some (r1,r2):=h
 clear h
 replace H:=Option.bind_eq_some_iff.mp H
 obtain ⟨t134,A20,H⟩ := H
 replace H : (if t134 = true then ((spec_l21Text.f k a0).bind fun t135 => (some (t135,true))) else (some ((⟨#[]⟩ : ByteArray),false))) = some (r1,r2):=H
 have A2:=Aside0.mk A20
 clear A20
 by_cases c3 : t134 = true
 ·subst c3
  have H1 : ((spec_l21Text.f k a0).bind fun t135 => (some (t135,true))) = some (r1,r2):=by rw [if_pos rfl] at H;exact H
  clear H
  have H:=H1
  clear H1
  replace H:=Option.bind_eq_some_iff.mp H
  obtain ⟨t135,A40,H⟩ := H
  replace H : (some (t135,true)) = some (r1,r2):=H
  have A4:=Aside0.mk A40
  clear A40
  simp only [Option.some.injEq,Prod.mk.injEq] at H
  obtain ⟨rfl,rfl⟩ := H
  go_enter Tryd.func7,Tryd.ntmps7
  go_wp2_with (first | ((with_reducible refine gate_callee (f:=26) rfl ?_);refine goesL_ (some 5) rfl rfl Tryd.func26 (by kernel_rfl) rfl #[.int .i64 a0, .int .i64 (-400), .int .i64 400] rfl (by (try simp only [List.map_toArray,List.map_cons,List.map_nil]);rfl) ?_;(with_reducible refine (spec_l1In.calls a0 (-400) 400 true _ A2.out).mono ?_);rintro e w' ⟨rfl,⟨nd,rfl⟩⟩;refine ⟨_,rfl, ?_⟩) | ((with_reducible refine gate_callee (f:=27) rfl ?_);refine goesL_ (some 8) rfl rfl Tryd.func27 (by kernel_rfl) rfl #[.int .i64 a0] rfl (by (try simp only [List.map_toArray,List.map_cons,List.map_nil]);rfl) ?_;(with_reducible refine (spec_l21Text.calls k a0 t135 _ A4.out).mono ?_);rintro e w5 ⟨rfl,hb⟩;refine ⟨_,rfl, ?_⟩;have n0_:=Aside0.mk (below_step (by repeat ((with_reducible first | exact HB.out | apply pw_below_drewN))) hb);clear HB;have HB:=n0_;clear n0_;(try clear hb)))
  go_ret2
  exact ⟨by rfl,by exact HB.out⟩
 ·replace c3:=Bool.eq_false_iff.mpr c3
  subst c3
  have H1 : (some ((⟨#[]⟩ : ByteArray),false)) = some (r1,r2):=by rw [if_neg (show ¬ (false = true) by decide)] at H;exact H
  clear H
  have H:=H1
  clear H1
  simp only [Option.some.injEq,Prod.mk.injEq] at H
  obtain ⟨rfl,rfl⟩ := H
  go_enter Tryd.func7,Tryd.ntmps7
  go_wp2_with (((with_reducible refine gate_callee (f:=26) rfl ?_);refine goesL_ (some 5) rfl rfl Tryd.func26 (by kernel_rfl) rfl #[.int .i64 a0, .int .i64 (-400), .int .i64 400] rfl (by (try simp only [List.map_toArray,List.map_cons,List.map_nil]);rfl) ?_;(with_reducible refine (spec_l1In.calls a0 (-400) 400 false _ A2.out).mono ?_);rintro e w' ⟨rfl,⟨nd,rfl⟩⟩;refine ⟨_,rfl, ?_⟩))
  go_ret2
  exact ⟨by rfl,by repeat ((with_reducible first | exact HB.out | apply pw_below_drewN))⟩

/-! ### impl_ParseTenth: function 8 -/
def impl_ParseTenth.l0 : Nat → ByteArray → Int → Option (Int × Bool)
 | 0,_,_ => none
 | k + 1,x0,x4 => if x4 ≤ 400 then ((impl_tenthText.f x4).bind fun t136 => (if t136.toList = x0.toList then (some (x4,true)) else (impl_ParseTenth.l0 k x0 (wrap64 (x4 + 1))))) else (some (0,false))
def impl_ParseTenth.f (k : Nat) (a0 : ByteArray) : Option (Int × Bool):=impl_ParseTenth.l0 k a0 (-400)
theorem impl_ParseTenth.mono_l : ∀ k,(∀ y0 y1,LeO (impl_ParseTenth.l0 k y0 y1) (impl_ParseTenth.l0 (k + 1) y0 y1))
 | 0 => fun _ _ r h => by simp [impl_ParseTenth.l0] at h
 | k + 1 => by
  have ih0:=impl_ParseTenth.mono_l k
  ·intro y0 y1
   unfold impl_ParseTenth.l0
   repeat' first
   | (with_reducible exact ih0 _ _)
   | (with_reducible exact LeO.refl _)
   | (with_reducible exact LeO.none _)
   | (with_reducible refine LeO.ite ?_ ?_)
   | (with_reducible refine LeO.bind ?_ (fun _ => ?_))
   | exact ih0 _ _
   | exact LeO.none _
   | refine LeO.ite ?_ ?_
   | refine LeO.bind ?_ (fun _ => ?_)
theorem impl_ParseTenth.mono : ∀ a0 k,LeO (impl_ParseTenth.f k a0) (impl_ParseTenth.f (k + 1) a0):=by
 intro a0 k
 have ih0:=impl_ParseTenth.mono_l k
 unfold impl_ParseTenth.f
 repeat' first
   | (with_reducible exact ih0 _ _)
   | (with_reducible exact LeO.refl _)
   | (with_reducible exact LeO.none _)
   | (with_reducible refine LeO.ite ?_ ?_)
   | (with_reducible refine LeO.bind ?_ (fun _ => ?_))
   | exact ih0 _ _
   | exact LeO.none _
   | refine LeO.ite ?_ ?_
   | refine LeO.bind ?_ (fun _ => ?_)
set_option maxHeartbeats 8000000 in
set_option maxRecDepth 100000 in
theorem impl_ParseTenth.calls (k : Nat) (a0 : ByteArray) (r1 : Int) (r2 : Bool) (w : World) (hT : Lib.TabIs Tryd.prog w "internal/strconv.uint64pow10" .u64 Lib.pow10Tab) (h : impl_ParseTenth.f k a0 = some (r1,r2)) :
  Calls Tryd.prog 8 #[.string a0] w fun e w' => e = .returned (.tuple #[.int .i64 r1, .bool r2]) ∧ Below w.heap.size w w':=by
 have HB:=Aside0.mk (Below.refl w.heap.size w)
 have H : (impl_ParseTenth.l0 k a0 (-400)) = some (r1,r2):=h
 clear h
 have H':=Aside0.mk H
 clear H
 go_enter Tryd.func8,Tryd.ntmps8
 go_wp2
 go_loopg [4] k (fun kq v4 w' => ∃ (x4_1 : Int),v4 = .int .i64 x4_1 ∧ Aside0 (impl_ParseTenth.l0 kq a0 x4_1 = some (r1,r2)) ∧ Aside0 (kq ≤ k) ∧ Aside0 (Below w.heap.size w w'))
 case atStart => exact ⟨((-400)),(by rfl),H',⟨Nat.le_refl _⟩,⟨by exact HB.out⟩⟩
 case round =>
  clear H'
  obtain ⟨x4_1,rfl,HA,HK1,HB⟩ := hrel
  cases gk with
  | zero => exact absurd HA.out (by simp [impl_ParseTenth.l0])
  | succ k1 =>
   have H:=HA.out
   clear HA
   simp only [impl_ParseTenth.l0] at H
   by_cases c2 : x4_1 ≤ 400
   ·rw [if_pos c2] at H
    have c2b0 : decide (x4_1 ≤ 400) = true:=decide_eq_true c2
    clear c2
    replace H:=Option.bind_eq_some_iff.mp H
    obtain ⟨t136,A30,H⟩ := H
    replace H : (if t136.toList = a0.toList then (some (x4_1,true)) else (impl_ParseTenth.l0 k1 a0 (wrap64 (x4_1 + 1)))) = some (r1,r2):=H
    have A3:=Aside0.mk A30
    clear A30
    by_cases c4 : t136.toList = a0.toList
    ·rw [if_pos c4] at H
     have c4b0 : (t136.toList == a0.toList) = true:=beq_iff_eq.mpr c4
     have c4b1 : (t136.toList != a0.toList) = false:=bne_eq_false_iff_eq.mpr c4
     clear c4
     simp only [Option.some.injEq,Prod.mk.injEq] at H
     obtain ⟨rfl,rfl⟩ := H
     go_wp2_with (((with_reducible refine gate_callee (f:=25) rfl ?_);refine goesL_ (some 10) rfl rfl Tryd.func25 (by kernel_rfl) rfl #[.int .i64 x4_1] rfl (by (try simp only [List.map_toArray,List.map_cons,List.map_nil]);rfl) ?_;(with_reducible refine (impl_tenthText.calls (hT:=?sgT) x4_1 t136 _ A3.out).mono ?_);(case sgT => exact TabIs_below hT (by exact HB.out));rintro e w5 ⟨rfl,hb⟩;refine ⟨_,rfl, ?_⟩;have n0_:=Aside0.mk (below_step (by exact HB.out) hb);clear HB;have HB:=n0_;clear n0_;(try clear hb)))
     go_ret2
     exact ⟨by rfl,by exact HB.out⟩
    ·rw [if_neg c4] at H
     have c4b0 : (t136.toList == a0.toList) = false:=beq_eq_false_iff_ne.mpr c4
     have c4b1 : (t136.toList != a0.toList) = true:=bne_iff_ne.mpr c4
     have H':=Aside0.mk H
     clear H
     go_wp2_with (((with_reducible refine gate_callee (f:=25) rfl ?_);refine goesL_ (some 10) rfl rfl Tryd.func25 (by kernel_rfl) rfl #[.int .i64 x4_1] rfl (by (try simp only [List.map_toArray,List.map_cons,List.map_nil]);rfl) ?_;(with_reducible refine (impl_tenthText.calls (hT:=?sgT) x4_1 t136 _ A3.out).mono ?_);(case sgT => exact TabIs_below hT (by exact HB.out));rintro e w6 ⟨rfl,hb⟩;refine ⟨_,rfl, ?_⟩;have n0_:=Aside0.mk (below_step (by exact HB.out) hb);clear HB;have HB:=n0_;clear n0_;(try clear hb)))
     go_roundg k1
     case measure => have:=HK1.out;omega
     case rel => exact ⟨(wrap64 (x4_1 + 1)),(by rfl),H',⟨by have:=HK1.out;omega⟩,⟨by exact HB.out⟩⟩
   ·rw [if_neg c2] at H
    have c2b0 : decide (x4_1 ≤ 400) = false:=decide_eq_false c2
    clear c2
    simp only [Option.some.injEq,Prod.mk.injEq] at H
    obtain ⟨rfl,rfl⟩ := H
    go_wp2
    go_ret2
    exact ⟨by rfl,by exact HB.out⟩

/-! ### spec_l1Cur_one: function 29 -/
def spec_l1Cur_one.f (s0_0 : List Int) (s0_1 : Int) (s0_2 : Int) (a1 : Int) : Option (Bool × Int × Int):=(spec_l1Cur_pick.f s0_0 s0_1 s0_2 a1).bind fun bt137 => (some ((bt137.1 == 0),bt137.2.1,bt137.2.2))
set_option maxHeartbeats 8000000 in
set_option maxRecDepth 100000 in
theorem spec_l1Cur_one.calls (g : Nat) (s0_0 : List Int) (s0_1 : Int) (s0_2 : Int) (a1 : Int) (r1 : Bool) (r2 : Int) (r3 : Int) (w0 w : World) (hI : IsS51 w0 w g s0_0 s0_1 s0_2) (hB : Below w0.heap.size w0 w) (h : spec_l1Cur_one.f s0_0 s0_1 s0_2 a1 = some (r1,r2,r3)) :
  Calls Tryd.prog 29 #[.pointer (some ⟨g,0,none⟩), .int .i64 a1] w fun e w' => e = .returned (.bool r1) ∧ IsS51 w0 w' g s0_0 r2 r3 ∧ Below w0.heap.size w0 w' ∧ KeepBut w w' g none:=by
 have HI0:=Aside0.mk hI
 have HK:=Aside0.mk (KeepBut.refl w g none)
 have HL:=Aside0.mk hB.size
 clear hI
 have HW0:=Aside0.mk hB.size
 have HB:=Aside0.mk hB
 clear hB
 have H : ((spec_l1Cur_pick.f s0_0 s0_1 s0_2 a1).bind fun bt137 => (some ((bt137.1 == 0),bt137.2.1,bt137.2.2))) = some (r1,r2,r3):=h
 clear h
 replace H:=Option.bind_eq_some_iff.mp H
 obtain ⟨⟨t137,t138,t139⟩,A30,H⟩ := H
 replace H : (some ((t137 == 0),t138,t139)) = some (r1,r2,r3):=H
 have A3:=Aside0.mk A30
 clear A30
 simp only [Option.some.injEq,Prod.mk.injEq] at H
 obtain ⟨rfl,rfl,rfl⟩ := H
 go_enter Tryd.func29,Tryd.ntmps29
 go_wp2_with (((with_reducible refine gate_callee (f:=28) rfl ?_);refine goesL_ (some 7) rfl rfl Tryd.func28 (by kernel_rfl) rfl #[.pointer (some ⟨g,0,none⟩), .int .i64 a1] rfl (by (try simp only [List.map_toArray,List.map_cons,List.map_nil]);rfl) ?_;(with_reducible refine (spec_l1Cur_pick.calls g s0_0 s0_1 s0_2 a1 t137 t138 t139 w0 _ ?side1 ?side2 A3.out).mono ?_);(case side1 => exact HI0.out);(case side2 => exact HB.out);rintro e w4 ⟨rfl,hi,hb,hk⟩;refine ⟨_,rfl, ?_⟩;have n0_:=Aside0.mk (KeepBut.trans (by exact HK.out) hk (.inl rfl));have n1_:=Aside0.mk (hb);have n2_:=Aside0.mk (hi);clear HK;clear HB;clear HI0;have HK:=n0_;have HB:=n1_;have HI0:=n2_;clear n0_ n1_ n2_;(try clear hb);(try clear hk);(try clear hi)))
 go_ret
 exact ⟨by rfl,by exact HI0.out,by exact HB.out,by exact HK.out⟩

/-! ### spec_l1Cur_spoilt: function 30 -/
def spec_l1Cur_spoilt.f (s0_0 : List Int) (s0_1 : Int) (s0_2 : Int) (a1 : ByteArray) (a2 : ByteArray) : Option (ByteArray × Int × Int):=if a1.toList = ([] : List UInt8) then (if 0 ≤ 1 then (if 1 ≤ (a2.size : Int) then (some (a2.extract 0 1,s0_1,s0_2)) else (none)) else (none)) else ((spec_l1Cur_pick.f s0_0 s0_1 s0_2 (a1.size : Int)).bind fun bt140 => ((spec_l1Cur_pick.f s0_0 bt140.2.1 bt140.2.2 (a2.size : Int)).bind fun bt143 => (if 0 ≤ bt143.1 then (if bt143.1 ≤ (a2.size : Int) then (if 0 ≤ 1 then (if 1 ≤ ((a2.extract (bt143.1 : Int).toNat a2.size).size : Int) then ((spec_l1Cur_pick.f s0_0 bt143.2.1 bt143.2.2 3).bind fun bt146 => (if bt146.1 = 0 then (if 0 ≤ bt140.1 then (if bt140.1 ≤ (a1.size : Int) then (if (a1.extract 0 (bt140.1 : Int).toNat).size + ((a2.extract (bt143.1 : Int).toNat a2.size).extract 0 1).size ≤ 9223372036854775807 then (if ((a1.extract 0 (bt140.1 : Int).toNat) ++ ((a2.extract (bt143.1 : Int).toNat a2.size).extract 0 1)).size + (a1.extract (bt140.1 : Int).toNat a1.size).size ≤ 9223372036854775807 then (some (((a1.extract 0 (bt140.1 : Int).toNat) ++ ((a2.extract (bt143.1 : Int).toNat a2.size).extract 0 1)) ++ (a1.extract (bt140.1 : Int).toNat a1.size),bt146.2.1,bt146.2.2)) else (none)) else (none)) else (none)) else (none)) else (if bt146.1 = 1 then (if 0 ≤ bt140.1 then (if bt140.1 ≤ (a1.size : Int) then (if (a1.extract 0 (bt140.1 : Int).toNat).size + ((a2.extract (bt143.1 : Int).toNat a2.size).extract 0 1).size ≤ 9223372036854775807 then (if 0 ≤ (wrap64 (bt140.1 + 1)) then (if (wrap64 (bt140.1 + 1)) ≤ (a1.size : Int) then (if ((a1.extract 0 (bt140.1 : Int).toNat) ++ ((a2.extract (bt143.1 : Int).toNat a2.size).extract 0 1)).size + (a1.extract ((wrap64 (bt140.1 + 1)) : Int).toNat a1.size).size ≤ 9223372036854775807 then (some (((a1.extract 0 (bt140.1 : Int).toNat) ++ ((a2.extract (bt143.1 : Int).toNat a2.size).extract 0 1)) ++ (a1.extract ((wrap64 (bt140.1 + 1)) : Int).toNat a1.size),bt146.2.1,bt146.2.2)) else (none)) else (none)) else (none)) else (none)) else (none)) else (none)) else (if 0 ≤ bt140.1 then (if bt140.1 ≤ (a1.size : Int) then (if 0 ≤ (wrap64 (bt140.1 + 1)) then (if (wrap64 (bt140.1 + 1)) ≤ (a1.size : Int) then (if (a1.extract 0 (bt140.1 : Int).toNat).size + (a1.extract ((wrap64 (bt140.1 + 1)) : Int).toNat a1.size).size ≤ 9223372036854775807 then (some ((a1.extract 0 (bt140.1 : Int).toNat) ++ (a1.extract ((wrap64 (bt140.1 + 1)) : Int).toNat a1.size),bt146.2.1,bt146.2.2)) else (none)) else (none)) else (none)) else (none)) else (none))))) else (none)) else (none)) else (none)) else (none))))
set_option maxHeartbeats 8000000 in
set_option maxRecDepth 100000 in
theorem spec_l1Cur_spoilt.calls (g : Nat) (s0_0 : List Int) (s0_1 : Int) (s0_2 : Int) (a1 : ByteArray) (a2 : ByteArray) (r1 : ByteArray) (r2 : Int) (r3 : Int) (w0 w : World) (hI : IsS51 w0 w g s0_0 s0_1 s0_2) (hB : Below w0.heap.size w0 w) (h : spec_l1Cur_spoilt.f s0_0 s0_1 s0_2 a1 a2 = some (r1,r2,r3)) :
  Calls Tryd.prog 30 #[.pointer (some ⟨g,0,none⟩), .string a1, .string a2] w fun e w' => e = .returned (.string r1) ∧ IsS51 w0 w' g s0_0 r2 r3 ∧ Below w0.heap.size w0 w' ∧ KeepBut w w' g none:=by
 have HI0:=Aside0.mk hI
 have HK:=Aside0.mk (KeepBut.refl w g none)
 have HL:=Aside0.mk hB.size
 clear hI
 have HW0:=Aside0.mk hB.size
 have HB:=Aside0.mk hB
 clear hB
 have H : (if a1.toList = ([] : List UInt8) then (if 0 ≤ 1 then (if 1 ≤ (a2.size : Int) then (some (a2.extract 0 1,s0_1,s0_2)) else (none)) else (none)) else ((spec_l1Cur_pick.f s0_0 s0_1 s0_2 (a1.size : Int)).bind fun bt140 => ((spec_l1Cur_pick.f s0_0 bt140.2.1 bt140.2.2 (a2.size : Int)).bind fun bt143 => (if 0 ≤ bt143.1 then (if bt143.1 ≤ (a2.size : Int) then (if 0 ≤ 1 then (if 1 ≤ ((a2.extract (bt143.1 : Int).toNat a2.size).size : Int) then ((spec_l1Cur_pick.f s0_0 bt143.2.1 bt143.2.2 3).bind fun bt146 => (if bt146.1 = 0 then (if 0 ≤ bt140.1 then (if bt140.1 ≤ (a1.size : Int) then (if (a1.extract 0 (bt140.1 : Int).toNat).size + ((a2.extract (bt143.1 : Int).toNat a2.size).extract 0 1).size ≤ 9223372036854775807 then (if ((a1.extract 0 (bt140.1 : Int).toNat) ++ ((a2.extract (bt143.1 : Int).toNat a2.size).extract 0 1)).size + (a1.extract (bt140.1 : Int).toNat a1.size).size ≤ 9223372036854775807 then (some (((a1.extract 0 (bt140.1 : Int).toNat) ++ ((a2.extract (bt143.1 : Int).toNat a2.size).extract 0 1)) ++ (a1.extract (bt140.1 : Int).toNat a1.size),bt146.2.1,bt146.2.2)) else (none)) else (none)) else (none)) else (none)) else (if bt146.1 = 1 then (if 0 ≤ bt140.1 then (if bt140.1 ≤ (a1.size : Int) then (if (a1.extract 0 (bt140.1 : Int).toNat).size + ((a2.extract (bt143.1 : Int).toNat a2.size).extract 0 1).size ≤ 9223372036854775807 then (if 0 ≤ (wrap64 (bt140.1 + 1)) then (if (wrap64 (bt140.1 + 1)) ≤ (a1.size : Int) then (if ((a1.extract 0 (bt140.1 : Int).toNat) ++ ((a2.extract (bt143.1 : Int).toNat a2.size).extract 0 1)).size + (a1.extract ((wrap64 (bt140.1 + 1)) : Int).toNat a1.size).size ≤ 9223372036854775807 then (some (((a1.extract 0 (bt140.1 : Int).toNat) ++ ((a2.extract (bt143.1 : Int).toNat a2.size).extract 0 1)) ++ (a1.extract ((wrap64 (bt140.1 + 1)) : Int).toNat a1.size),bt146.2.1,bt146.2.2)) else (none)) else (none)) else (none)) else (none)) else (none)) else (none)) else (if 0 ≤ bt140.1 then (if bt140.1 ≤ (a1.size : Int) then (if 0 ≤ (wrap64 (bt140.1 + 1)) then (if (wrap64 (bt140.1 + 1)) ≤ (a1.size : Int) then (if (a1.extract 0 (bt140.1 : Int).toNat).size + (a1.extract ((wrap64 (bt140.1 + 1)) : Int).toNat a1.size).size ≤ 9223372036854775807 then (some ((a1.extract 0 (bt140.1 : Int).toNat) ++ (a1.extract ((wrap64 (bt140.1 + 1)) : Int).toNat a1.size),bt146.2.1,bt146.2.2)) else (none)) else (none)) else (none)) else (none)) else (none))))) else (none)) else (none)) else (none)) else (none))))) = some (r1,r2,r3):=h
 clear h
 by_cases c4 : a1.toList = ([] : List UInt8)
 ·rw [if_pos c4] at H
  have c4b0 : (a1.toList == ([] : List UInt8)) = true:=beq_iff_eq.mpr c4
  have c4b1 : (a1.toList != ([] : List UInt8)) = false:=bne_eq_false_iff_eq.mpr c4
  clear c4
  by_cases c5 : 0 ≤ 1
  ·rw [if_pos c5] at H
   have c5b0:=eq_true c5
   have c5b1 : decide (0 ≤ 1) = true:=decide_eq_true c5
   clear c5
   by_cases c6 : 1 ≤ (a2.size : Int)
   ·rw [if_pos c6] at H
    have c6b0:=eq_true c6
    have c6b1 : decide (1 ≤ (a2.size : Int)) = true:=decide_eq_true c6
    clear c6
    simp only [Option.some.injEq,Prod.mk.injEq] at H
    obtain ⟨rfl,rfl,rfl⟩ := H
    go_enter Tryd.func30,Tryd.ntmps30
    go_wp2
    repeat (go_quiet (fail);try go_wp2)
    go_ret
    exact ⟨by rfl,by exact HI0.out,by exact HB.out,by exact HK.out⟩
   ·rw [if_neg c6] at H
    exact absurd H (by simp)
  ·rw [if_neg c5] at H
   exact absurd H (by simp)
 ·rw [if_neg c4] at H
  have c4b0 : (a1.toList == ([] : List UInt8)) = false:=beq_eq_false_iff_ne.mpr c4
  have c4b1 : (a1.toList != ([] : List UInt8)) = true:=bne_iff_ne.mpr c4
  replace H:=Option.bind_eq_some_iff.mp H
  obtain ⟨⟨t140,t141,t142⟩,A70,H⟩ := H
  replace H : ((spec_l1Cur_pick.f s0_0 t141 t142 (a2.size : Int)).bind fun bt143 => (if 0 ≤ bt143.1 then (if bt143.1 ≤ (a2.size : Int) then (if 0 ≤ 1 then (if 1 ≤ ((a2.extract (bt143.1 : Int).toNat a2.size).size : Int) then ((spec_l1Cur_pick.f s0_0 bt143.2.1 bt143.2.2 3).bind fun bt146 => (if bt146.1 = 0 then (if 0 ≤ t140 then (if t140 ≤ (a1.size : Int) then (if (a1.extract 0 (t140 : Int).toNat).size + ((a2.extract (bt143.1 : Int).toNat a2.size).extract 0 1).size ≤ 9223372036854775807 then (if ((a1.extract 0 (t140 : Int).toNat) ++ ((a2.extract (bt143.1 : Int).toNat a2.size).extract 0 1)).size + (a1.extract (t140 : Int).toNat a1.size).size ≤ 9223372036854775807 then (some (((a1.extract 0 (t140 : Int).toNat) ++ ((a2.extract (bt143.1 : Int).toNat a2.size).extract 0 1)) ++ (a1.extract (t140 : Int).toNat a1.size),bt146.2.1,bt146.2.2)) else (none)) else (none)) else (none)) else (none)) else (if bt146.1 = 1 then (if 0 ≤ t140 then (if t140 ≤ (a1.size : Int) then (if (a1.extract 0 (t140 : Int).toNat).size + ((a2.extract (bt143.1 : Int).toNat a2.size).extract 0 1).size ≤ 9223372036854775807 then (if 0 ≤ (wrap64 (t140 + 1)) then (if (wrap64 (t140 + 1)) ≤ (a1.size : Int) then (if ((a1.extract 0 (t140 : Int).toNat) ++ ((a2.extract (bt143.1 : Int).toNat a2.size).extract 0 1)).size + (a1.extract ((wrap64 (t140 + 1)) : Int).toNat a1.size).size ≤ 9223372036854775807 then (some (((a1.extract 0 (t140 : Int).toNat) ++ ((a2.extract (bt143.1 : Int).toNat a2.size).extract 0 1)) ++ (a1.extract ((wrap64 (t140 + 1)) : Int).toNat a1.size),bt146.2.1,bt146.2.2)) else (none)) else (none)) else (none)) else (none)) else (none)) else (none)) else (if 0 ≤ t140 then (if t140 ≤ (a1.size : Int) then (if 0 ≤ (wrap64 (t140 + 1)) then (if (wrap64 (t140 + 1)) ≤ (a1.size : Int) then (if (a1.extract 0 (t140 : Int).toNat).size + (a1.extract ((wrap64 (t140 + 1)) : Int).toNat a1.size).size ≤ 9223372036854775807 then (some ((a1.extract 0 (t140 : Int).toNat) ++ (a1.extract ((wrap64 (t140 + 1)) : Int).toNat a1.size),bt146.2.1,bt146.2.2)) else (none)) else (none)) else (none)) else (none)) else (none))))) else (none)) else (none)) else (none)) else (none))) = some (r1,r2,r3):=H
  have A7:=Aside0.mk A70
  clear A70
  replace H:=Option.bind_eq_some_iff.mp H
  obtain ⟨⟨t143,t144,t145⟩,A80,H⟩ := H
  replace H : (if 0 ≤ t143 then (if t143 ≤ (a2.size : Int) then (if 0 ≤ 1 then (if 1 ≤ ((a2.extract (t143 : Int).toNat a2.size).size : Int) then ((spec_l1Cur_pick.f s0_0 t144 t145 3).bind fun bt146 => (if bt146.1 = 0 then (if 0 ≤ t140 then (if t140 ≤ (a1.size : Int) then (if (a1.extract 0 (t140 : Int).toNat).size + ((a2.extract (t143 : Int).toNat a2.size).extract 0 1).size ≤ 9223372036854775807 then (if ((a1.extract 0 (t140 : Int).toNat) ++ ((a2.extract (t143 : Int).toNat a2.size).extract 0 1)).size + (a1.extract (t140 : Int).toNat a1.size).size ≤ 9223372036854775807 then (some (((a1.extract 0 (t140 : Int).toNat) ++ ((a2.extract (t143 : Int).toNat a2.size).extract 0 1)) ++ (a1.extract (t140 : Int).toNat a1.size),bt146.2.1,bt146.2.2)) else (none)) else (none)) else (none)) else (none)) else (if bt146.1 = 1 then (if 0 ≤ t140 then (if t140 ≤ (a1.size : Int) then (if (a1.extract 0 (t140 : Int).toNat).size + ((a2.extract (t143 : Int).toNat a2.size).extract 0 1).size ≤ 9223372036854775807 then (if 0 ≤ (wrap64 (t140 + 1)) then (if (wrap64 (t140 + 1)) ≤ (a1.size : Int) then (if ((a1.extract 0 (t140 : Int).toNat) ++ ((a2.extract (t143 : Int).toNat a2.size).extract 0 1)).size + (a1.extract ((wrap64 (t140 + 1)) : Int).toNat a1.size).size ≤ 9223372036854775807 then (some (((a1.extract 0 (t140 : Int).toNat) ++ ((a2.extract (t143 : Int).toNat a2.size).extract 0 1)) ++ (a1.extract ((wrap64 (t140 + 1)) : Int).toNat a1.size),bt146.2.1,bt146.2.2)) else (none)) else (none)) else (none)) else (none)) else (none)) else (none)) else (if 0 ≤ t140 then (if t140 ≤ (a1.size : Int) then (if 0 ≤ (wrap64 (t140 + 1)) then (if (wrap64 (t140 + 1)) ≤ (a1.size : Int) then (if (a1.extract 0 (t140 : Int).toNat).size + (a1.extract ((wrap64 (t140 + 1)) : Int).toNat a1.size).size ≤ 9223372036854775807 then (some ((a1.extract 0 (t140 : Int).toNat) ++ (a1.extract ((wrap64 (t140 + 1)) : Int).toNat a1.size),bt146.2.1,bt146.2.2)) else (none)) else (none)) else (none)) else (none)) else (none))))) else (none)) else (none)) else (none)) else (none)) = some (r1,r2,r3):=H
  have A8:=Aside0.mk A80
  clear A80
  by_cases c9 : 0 ≤ t143
  ·rw [if_pos c9] at H
   have c9b0:=eq_true c9
   have c9b1 : decide (0 ≤ t143) = true:=decide_eq_true c9
   clear c9
   by_cases c10 : t143 ≤ (a2.size : Int)
   ·rw [if_pos c10] at H
    have c10b0:=eq_true c10
    have c10b1 : decide (t143 ≤ (a2.size : Int)) = true:=decide_eq_true c10
    clear c10
    by_cases c11 : 0 ≤ 1
    ·rw [if_pos c11] at H
     have c11b0:=eq_true c11
     have c11b1 : decide (0 ≤ 1) = true:=decide_eq_true c11
     clear c11
     by_cases c12 : 1 ≤ ((a2.extract (t143 : Int).toNat a2.size).size : Int)
     ·rw [if_pos c12] at H
      have c12b0:=eq_true c12
      try have c12b9 : (1 ≤ ((a2.size - (t143 : Int).toNat : Nat) : Int)) = True:=by have h_:=c12b0;rw [ByteArray.size_extract,Nat.min_self] at h_;exact h_
      have c12b1 : decide (1 ≤ ((a2.extract (t143 : Int).toNat a2.size).size : Int)) = true:=decide_eq_true c12
      clear c12
      replace H:=Option.bind_eq_some_iff.mp H
      obtain ⟨⟨t146,t147,t148⟩,A130,H⟩ := H
      replace H : (if t146 = 0 then (if 0 ≤ t140 then (if t140 ≤ (a1.size : Int) then (if (a1.extract 0 (t140 : Int).toNat).size + ((a2.extract (t143 : Int).toNat a2.size).extract 0 1).size ≤ 9223372036854775807 then (if ((a1.extract 0 (t140 : Int).toNat) ++ ((a2.extract (t143 : Int).toNat a2.size).extract 0 1)).size + (a1.extract (t140 : Int).toNat a1.size).size ≤ 9223372036854775807 then (some (((a1.extract 0 (t140 : Int).toNat) ++ ((a2.extract (t143 : Int).toNat a2.size).extract 0 1)) ++ (a1.extract (t140 : Int).toNat a1.size),t147,t148)) else (none)) else (none)) else (none)) else (none)) else (if t146 = 1 then (if 0 ≤ t140 then (if t140 ≤ (a1.size : Int) then (if (a1.extract 0 (t140 : Int).toNat).size + ((a2.extract (t143 : Int).toNat a2.size).extract 0 1).size ≤ 9223372036854775807 then (if 0 ≤ (wrap64 (t140 + 1)) then (if (wrap64 (t140 + 1)) ≤ (a1.size : Int) then (if ((a1.extract 0 (t140 : Int).toNat) ++ ((a2.extract (t143 : Int).toNat a2.size).extract 0 1)).size + (a1.extract ((wrap64 (t140 + 1)) : Int).toNat a1.size).size ≤ 9223372036854775807 then (some (((a1.extract 0 (t140 : Int).toNat) ++ ((a2.extract (t143 : Int).toNat a2.size).extract 0 1)) ++ (a1.extract ((wrap64 (t140 + 1)) : Int).toNat a1.size),t147,t148)) else (none)) else (none)) else (none)) else (none)) else (none)) else (none)) else (if 0 ≤ t140 then (if t140 ≤ (a1.size : Int) then (if 0 ≤ (wrap64 (t140 + 1)) then (if (wrap64 (t140 + 1)) ≤ (a1.size : Int) then (if (a1.extract 0 (t140 : Int).toNat).size + (a1.extract ((wrap64 (t140 + 1)) : Int).toNat a1.size).size ≤ 9223372036854775807 then (some ((a1.extract 0 (t140 : Int).toNat) ++ (a1.extract ((wrap64 (t140 + 1)) : Int).toNat a1.size),t147,t148)) else (none)) else (none)) else (none)) else (none)) else (none)))) = some (r1,r2,r3):=H
      have A13:=Aside0.mk A130
      clear A130
      by_cases c14 : t146 = 0
      ·rw [if_pos c14] at H
       have c14b0 : (t146 == 0) = true:=beq_iff_eq.mpr c14
       have c14b1 : (t146 != 0) = false:=bne_eq_false_iff_eq.mpr c14
       clear c14
       by_cases c15 : 0 ≤ t140
       ·rw [if_pos c15] at H
        have c15b0:=eq_true c15
        have c15b1 : decide (0 ≤ t140) = true:=decide_eq_true c15
        clear c15
        by_cases c16 : t140 ≤ (a1.size : Int)
        ·rw [if_pos c16] at H
         have c16b0:=eq_true c16
         have c16b1 : decide (t140 ≤ (a1.size : Int)) = true:=decide_eq_true c16
         clear c16
         by_cases c17 : (a1.extract 0 (t140 : Int).toNat).size + ((a2.extract (t143 : Int).toNat a2.size).extract 0 1).size ≤ 9223372036854775807
         ·rw [if_pos c17] at H
          have c17b0:=eq_true c17
          have c17b1 : decide ((a1.extract 0 (t140 : Int).toNat).size + ((a2.extract (t143 : Int).toNat a2.size).extract 0 1).size ≤ 9223372036854775807) = true:=decide_eq_true c17
          try have c17b2 : (9223372036854775807 < (a1.extract 0 (t140 : Int).toNat).size + ((a2.extract (t143 : Int).toNat a2.size).extract 0 1).size) = False:=eq_false (Nat.not_lt.2 c17)
          have c18b0:=eq_true (of_decide_eq_true (by (with_reducible assumption)) : 0 ≤ t140)
          have c19b0:=eq_true (of_decide_eq_true (by (with_reducible assumption)) : t140 ≤ (a1.size : Int))
          by_cases c20 : ((a1.extract 0 (t140 : Int).toNat) ++ ((a2.extract (t143 : Int).toNat a2.size).extract 0 1)).size + (a1.extract (t140 : Int).toNat a1.size).size ≤ 9223372036854775807
          ·rw [if_pos c20] at H
           have c20b0:=eq_true c20
           have c20b1 : decide (((a1.extract 0 (t140 : Int).toNat) ++ ((a2.extract (t143 : Int).toNat a2.size).extract 0 1)).size + (a1.extract (t140 : Int).toNat a1.size).size ≤ 9223372036854775807) = true:=decide_eq_true c20
           try have c20b2 : (9223372036854775807 < ((a1.extract 0 (t140 : Int).toNat) ++ ((a2.extract (t143 : Int).toNat a2.size).extract 0 1)).size + (a1.extract (t140 : Int).toNat a1.size).size) = False:=eq_false (Nat.not_lt.2 c20)
           simp only [Option.some.injEq,Prod.mk.injEq] at H
           obtain ⟨rfl,rfl,rfl⟩ := H
           go_enter Tryd.func30,Tryd.ntmps30
           go_wp2_with (first | (go_at_call 28;(with_reducible refine (spec_l1Cur_pick.calls g s0_0 s0_1 s0_2 (a1.size : Int) t140 t141 t142 w0 _ ?side1 ?side2 A7.out).mono ?_);(case side1 => exact HI0.out);(case side2 => exact HB.out);rintro e w21 ⟨rfl,hi,hb,hk⟩;have n0_:=Aside0.mk (KeepBut.trans (by exact HK.out) hk (.inl rfl));have n1_:=Aside0.mk (hb);have n2_:=Aside0.mk (hi);clear HK;clear HB;clear HI0;have HK:=n0_;have HB:=n1_;have HI0:=n2_;clear n0_ n1_ n2_;(try clear hb);(try clear hk);(try clear hi)) | (go_at_call 28;(with_reducible refine (spec_l1Cur_pick.calls g s0_0 t141 t142 (a2.size : Int) t143 t144 t145 w0 _ ?side1 ?side2 A8.out).mono ?_);(case side1 => exact HI0.out);(case side2 => exact HB.out);rintro e w22 ⟨rfl,hi,hb,hk⟩;have n0_:=Aside0.mk (KeepBut.trans (by exact HK.out) hk (.inl rfl));have n1_:=Aside0.mk (hb);have n2_:=Aside0.mk (hi);clear HK;clear HB;clear HI0;have HK:=n0_;have HB:=n1_;have HI0:=n2_;clear n0_ n1_ n2_;(try clear hb);(try clear hk);(try clear hi)) | (go_at_call 28;(with_reducible refine (spec_l1Cur_pick.calls g s0_0 t144 t145 3 t146 t147 t148 w0 _ ?side1 ?side2 A13.out).mono ?_);(case side1 => exact HI0.out);(case side2 => exact HB.out);rintro e w23 ⟨rfl,hi,hb,hk⟩;have n0_:=Aside0.mk (KeepBut.trans (by exact HK.out) hk (.inl rfl));have n1_:=Aside0.mk (hb);have n2_:=Aside0.mk (hi);clear HK;clear HB;clear HI0;have HK:=n0_;have HB:=n1_;have HI0:=n2_;clear n0_ n1_ n2_;(try clear hb);(try clear hk);(try clear hi)))
           repeat (go_quiet (fail);try go_wp2_with (fail))
           go_ret
           exact ⟨by rfl,by repeat ((with_reducible first | exact HI0.out | apply IsS51.drewN)),by repeat ((with_reducible first | exact HB.out | apply pw_below_drewN)),by repeat ((with_reducible first | exact HK.out | apply keep_drewN))⟩
          ·rw [if_neg c20] at H
           exact absurd H (by simp)
         ·rw [if_neg c17] at H
          exact absurd H (by simp)
        ·rw [if_neg c16] at H
         exact absurd H (by simp)
       ·rw [if_neg c15] at H
        exact absurd H (by simp)
      ·rw [if_neg c14] at H
       have c14b0 : (t146 == 0) = false:=beq_eq_false_iff_ne.mpr c14
       have c14b1 : (t146 != 0) = true:=bne_iff_ne.mpr c14
       by_cases c24 : t146 = 1
       ·rw [if_pos c24] at H
        have c24b0 : (t146 == 1) = true:=beq_iff_eq.mpr c24
        have c24b1 : (t146 != 1) = false:=bne_eq_false_iff_eq.mpr c24
        clear c24
        by_cases c25 : 0 ≤ t140
        ·rw [if_pos c25] at H
         have c25b0:=eq_true c25
         have c25b1 : decide (0 ≤ t140) = true:=decide_eq_true c25
         clear c25
         by_cases c26 : t140 ≤ (a1.size : Int)
         ·rw [if_pos c26] at H
          have c26b0:=eq_true c26
          have c26b1 : decide (t140 ≤ (a1.size : Int)) = true:=decide_eq_true c26
          clear c26
          by_cases c27 : (a1.extract 0 (t140 : Int).toNat).size + ((a2.extract (t143 : Int).toNat a2.size).extract 0 1).size ≤ 9223372036854775807
          ·rw [if_pos c27] at H
           have c27b0:=eq_true c27
           have c27b1 : decide ((a1.extract 0 (t140 : Int).toNat).size + ((a2.extract (t143 : Int).toNat a2.size).extract 0 1).size ≤ 9223372036854775807) = true:=decide_eq_true c27
           try have c27b2 : (9223372036854775807 < (a1.extract 0 (t140 : Int).toNat).size + ((a2.extract (t143 : Int).toNat a2.size).extract 0 1).size) = False:=eq_false (Nat.not_lt.2 c27)
           obtain ⟨ji28,hji28⟩ : ∃ j_ : Int,(wrap64 (t140 + 1)) = j_:=⟨_,rfl⟩
           replace H : (if 0 ≤ (ji28) then (if (ji28) ≤ (a1.size : Int) then (if ((a1.extract 0 (t140 : Int).toNat) ++ ((a2.extract (t143 : Int).toNat a2.size).extract 0 1)).size + (a1.extract ((ji28) : Int).toNat a1.size).size ≤ 9223372036854775807 then (some (((a1.extract 0 (t140 : Int).toNat) ++ ((a2.extract (t143 : Int).toNat a2.size).extract 0 1)) ++ (a1.extract ((ji28) : Int).toNat a1.size),t147,t148)) else (none)) else (none)) else (none)) = some (r1,r2,r3):=by (rw [hji28] at H;exact H)
           (skip)
           (skip)
           (skip)
           have hji28w : (IntKind.i64.wrap (t140 + 1)) = ji28:=(i64_w _).trans hji28
           by_cases c29 : 0 ≤ (ji28)
           ·rw [if_pos c29] at H
            have c29b0:=eq_true c29
            have c29b1 : decide (0 ≤ (ji28)) = true:=decide_eq_true c29
            clear c29
            by_cases c30 : (ji28) ≤ (a1.size : Int)
            ·rw [if_pos c30] at H
             have c30b0:=eq_true c30
             have c30b1 : decide ((ji28) ≤ (a1.size : Int)) = true:=decide_eq_true c30
             clear c30
             by_cases c31 : ((a1.extract 0 (t140 : Int).toNat) ++ ((a2.extract (t143 : Int).toNat a2.size).extract 0 1)).size + (a1.extract ((ji28) : Int).toNat a1.size).size ≤ 9223372036854775807
             ·rw [if_pos c31] at H
              have c31b0:=eq_true c31
              have c31b1 : decide (((a1.extract 0 (t140 : Int).toNat) ++ ((a2.extract (t143 : Int).toNat a2.size).extract 0 1)).size + (a1.extract ((ji28) : Int).toNat a1.size).size ≤ 9223372036854775807) = true:=decide_eq_true c31
              try have c31b2 : (9223372036854775807 < ((a1.extract 0 (t140 : Int).toNat) ++ ((a2.extract (t143 : Int).toNat a2.size).extract 0 1)).size + (a1.extract ((ji28) : Int).toNat a1.size).size) = False:=eq_false (Nat.not_lt.2 c31)
              simp only [Option.some.injEq,Prod.mk.injEq] at H
              obtain ⟨rfl,rfl,rfl⟩ := H
              go_enter Tryd.func30,Tryd.ntmps30
              go_wp2_with (first | (go_at_call 28;(with_reducible refine (spec_l1Cur_pick.calls g s0_0 s0_1 s0_2 (a1.size : Int) t140 t141 t142 w0 _ ?side1 ?side2 A7.out).mono ?_);(case side1 => exact HI0.out);(case side2 => exact HB.out);rintro e w32 ⟨rfl,hi,hb,hk⟩;have n0_:=Aside0.mk (KeepBut.trans (by exact HK.out) hk (.inl rfl));have n1_:=Aside0.mk (hb);have n2_:=Aside0.mk (hi);clear HK;clear HB;clear HI0;have HK:=n0_;have HB:=n1_;have HI0:=n2_;clear n0_ n1_ n2_;(try clear hb);(try clear hk);(try clear hi)) | (go_at_call 28;(with_reducible refine (spec_l1Cur_pick.calls g s0_0 t141 t142 (a2.size : Int) t143 t144 t145 w0 _ ?side1 ?side2 A8.out).mono ?_);(case side1 => exact HI0.out);(case side2 => exact HB.out);rintro e w33 ⟨rfl,hi,hb,hk⟩;have n0_:=Aside0.mk (KeepBut.trans (by exact HK.out) hk (.inl rfl));have n1_:=Aside0.mk (hb);have n2_:=Aside0.mk (hi);clear HK;clear HB;clear HI0;have HK:=n0_;have HB:=n1_;have HI0:=n2_;clear n0_ n1_ n2_;(try clear hb);(try clear hk);(try clear hi)) | (go_at_call 28;(with_reducible refine (spec_l1Cur_pick.calls g s0_0 t144 t145 3 t146 t147 t148 w0 _ ?side1 ?side2 A13.out).mono ?_);(case side1 => exact HI0.out);(case side2 => exact HB.out);rintro e w34 ⟨rfl,hi,hb,hk⟩;have n0_:=Aside0.mk (KeepBut.trans (by exact HK.out) hk (.inl rfl));have n1_:=Aside0.mk (hb);have n2_:=Aside0.mk (hi);clear HK;clear HB;clear HI0;have HK:=n0_;have HB:=n1_;have HI0:=n2_;clear n0_ n1_ n2_;(try clear hb);(try clear hk);(try clear hi)))
              repeat (go_quiet (fail);try go_wp2_with (fail))
              go_ret
              exact ⟨by rfl,by repeat ((with_reducible first | exact HI0.out | apply IsS51.drewN)),by repeat ((with_reducible first | exact HB.out | apply pw_below_drewN)),by repeat ((with_reducible first | exact HK.out | apply keep_drewN))⟩
             ·rw [if_neg c31] at H
              exact absurd H (by simp)
            ·rw [if_neg c30] at H
             exact absurd H (by simp)
           ·rw [if_neg c29] at H
            exact absurd H (by simp)
          ·rw [if_neg c27] at H
           exact absurd H (by simp)
         ·rw [if_neg c26] at H
          exact absurd H (by simp)
        ·rw [if_neg c25] at H
         exact absurd H (by simp)
       ·rw [if_neg c24] at H
        have c24b0 : (t146 == 1) = false:=beq_eq_false_iff_ne.mpr c24
        have c24b1 : (t146 != 1) = true:=bne_iff_ne.mpr c24
        by_cases c35 : 0 ≤ t140
        ·rw [if_pos c35] at H
         have c35b0:=eq_true c35
         have c35b1 : decide (0 ≤ t140) = true:=decide_eq_true c35
         clear c35
         by_cases c36 : t140 ≤ (a1.size : Int)
         ·rw [if_pos c36] at H
          have c36b0:=eq_true c36
          have c36b1 : decide (t140 ≤ (a1.size : Int)) = true:=decide_eq_true c36
          clear c36
          obtain ⟨ji37,hji37⟩ : ∃ j_ : Int,(wrap64 (t140 + 1)) = j_:=⟨_,rfl⟩
          replace H : (if 0 ≤ (ji37) then (if (ji37) ≤ (a1.size : Int) then (if (a1.extract 0 (t140 : Int).toNat).size + (a1.extract ((ji37) : Int).toNat a1.size).size ≤ 9223372036854775807 then (some ((a1.extract 0 (t140 : Int).toNat) ++ (a1.extract ((ji37) : Int).toNat a1.size),t147,t148)) else (none)) else (none)) else (none)) = some (r1,r2,r3):=by (rw [hji37] at H;exact H)
          (skip)
          (skip)
          (skip)
          have hji37w : (IntKind.i64.wrap (t140 + 1)) = ji37:=(i64_w _).trans hji37
          by_cases c38 : 0 ≤ (ji37)
          ·rw [if_pos c38] at H
           have c38b0:=eq_true c38
           have c38b1 : decide (0 ≤ (ji37)) = true:=decide_eq_true c38
           clear c38
           by_cases c39 : (ji37) ≤ (a1.size : Int)
           ·rw [if_pos c39] at H
            have c39b0:=eq_true c39
            have c39b1 : decide ((ji37) ≤ (a1.size : Int)) = true:=decide_eq_true c39
            clear c39
            by_cases c40 : (a1.extract 0 (t140 : Int).toNat).size + (a1.extract ((ji37) : Int).toNat a1.size).size ≤ 9223372036854775807
            ·rw [if_pos c40] at H
             have c40b0:=eq_true c40
             have c40b1 : decide ((a1.extract 0 (t140 : Int).toNat).size + (a1.extract ((ji37) : Int).toNat a1.size).size ≤ 9223372036854775807) = true:=decide_eq_true c40
             try have c40b2 : (9223372036854775807 < (a1.extract 0 (t140 : Int).toNat).size + (a1.extract ((ji37) : Int).toNat a1.size).size) = False:=eq_false (Nat.not_lt.2 c40)
             simp only [Option.some.injEq,Prod.mk.injEq] at H
             obtain ⟨rfl,rfl,rfl⟩ := H
             go_enter Tryd.func30,Tryd.ntmps30
             go_wp2_with (first | (go_at_call 28;(with_reducible refine (spec_l1Cur_pick.calls g s0_0 s0_1 s0_2 (a1.size : Int) t140 t141 t142 w0 _ ?side1 ?side2 A7.out).mono ?_);(case side1 => exact HI0.out);(case side2 => exact HB.out);rintro e w41 ⟨rfl,hi,hb,hk⟩;have n0_:=Aside0.mk (KeepBut.trans (by exact HK.out) hk (.inl rfl));have n1_:=Aside0.mk (hb);have n2_:=Aside0.mk (hi);clear HK;clear HB;clear HI0;have HK:=n0_;have HB:=n1_;have HI0:=n2_;clear n0_ n1_ n2_;(try clear hb);(try clear hk);(try clear hi)) | (go_at_call 28;(with_reducible refine (spec_l1Cur_pick.calls g s0_0 t141 t142 (a2.size : Int) t143 t144 t145 w0 _ ?side1 ?side2 A8.out).mono ?_);(case side1 => exact HI0.out);(case side2 => exact HB.out);rintro e w42 ⟨rfl,hi,hb,hk⟩;have n0_:=Aside0.mk (KeepBut.trans (by exact HK.out) hk (.inl rfl));have n1_:=Aside0.mk (hb);have n2_:=Aside0.mk (hi);clear HK;clear HB;clear HI0;have HK:=n0_;have HB:=n1_;have HI0:=n2_;clear n0_ n1_ n2_;(try clear hb);(try clear hk);(try clear hi)) | (go_at_call 28;(with_reducible refine (spec_l1Cur_pick.calls g s0_0 t144 t145 3 t146 t147 t148 w0 _ ?side1 ?side2 A13.out).mono ?_);(case side1 => exact HI0.out);(case side2 => exact HB.out);rintro e w43 ⟨rfl,hi,hb,hk⟩;have n0_:=Aside0.mk (KeepBut.trans (by exact HK.out) hk (.inl rfl));have n1_:=Aside0.mk (hb);have n2_:=Aside0.mk (hi);clear HK;clear HB;clear HI0;have HK:=n0_;have HB:=n1_;have HI0:=n2_;clear n0_ n1_ n2_;(try clear hb);(try clear hk);(try clear hi)))
             repeat (go_quiet (fail);try go_wp2_with (fail))
             go_ret
             exact ⟨by rfl,by repeat ((with_reducible first | exact HI0.out | apply IsS51.drewN)),by repeat ((with_reducible first | exact HB.out | apply pw_below_drewN)),by repeat ((with_reducible first | exact HK.out | apply keep_drewN))⟩
            ·rw [if_neg c40] at H
             exact absurd H (by simp)
           ·rw [if_neg c39] at H
            exact absurd H (by simp)
          ·rw [if_neg c38] at H
           exact absurd H (by simp)
         ·rw [if_neg c36] at H
          exact absurd H (by simp)
        ·rw [if_neg c35] at H
         exact absurd H (by simp)
     ·rw [if_neg c12] at H
      exact absurd H (by simp)
    ·rw [if_neg c11] at H
     exact absurd H (by simp)
   ·rw [if_neg c10] at H
    exact absurd H (by simp)
  ·rw [if_neg c9] at H
   exact absurd H (by simp)

/-! ### spec_DrawParseTenth: function 9 -/
def spec_DrawParseTenth.f (k : Nat) (l0 : List Int) : Option (ByteArray):=(spec_l1Cur_pick.f l0 0 0 801).bind fun bt150 => ((spec_l21Text.f k (wrap64 (bt150.1 - 400))).bind fun t153 => ((spec_l1Cur_one.f l0 bt150.2.1 bt150.2.2 3).bind fun bt154 => (if bt154.1 = true then ((spec_l1Cur_spoilt.f l0 bt154.2.1 bt154.2.2 t153 (⟨#[45,48,46,49]⟩ : ByteArray)).bind fun bt157 => (some bt157.1)) else (some t153))))
theorem spec_DrawParseTenth.mono : ∀ a0 k,LeO (spec_DrawParseTenth.f k a0) (spec_DrawParseTenth.f (k + 1) a0):=by
 intro a0 k
 unfold spec_DrawParseTenth.f
 repeat' first
   | (with_reducible exact spec_l21Text.mono _ _)
   | (with_reducible exact LeO.refl _)
   | (with_reducible exact LeO.none _)
   | (with_reducible refine LeO.ite ?_ ?_)
   | (with_reducible refine LeO.bind ?_ (fun _ => ?_))
   | exact spec_l21Text.mono _ _
   | exact LeO.none _
   | refine LeO.ite ?_ ?_
   | refine LeO.bind ?_ (fun _ => ?_)
set_option maxHeartbeats 8000000 in
set_option maxRecDepth 100000 in
theorem spec_DrawParseTenth.calls (k : Nat) (A0 : Option Addr) (c0 : Nat) (l0 : List Int) (r : ByteArray) (w : World) (hr0 : Kd.C (Kd.int .u8) w A0 l0.length l0) (hc0 : l0.length ≤ c0) (h : spec_DrawParseTenth.f k l0 = some r) :
  Calls Tryd.prog 9 #[.slice A0 l0.length c0] w fun e w' => e = .returned (.string r) ∧ Below w.heap.size w w':=by
 have hu51:=Tryd.underlying51
 have HR0:=Aside0.mk hr0
 have HC0:=Aside0.mk hc0
 clear hr0 hc0
 have HB:=Aside0.mk (Below.refl w.heap.size w)
 have H : ((spec_l1Cur_pick.f l0 0 0 801).bind fun bt150 => ((spec_l21Text.f k (wrap64 (bt150.1 - 400))).bind fun t153 => ((spec_l1Cur_one.f l0 bt150.2.1 bt150.2.2 3).bind fun bt154 => (if bt154.1 = true then ((spec_l1Cur_spoilt.f l0 bt154.2.1 bt154.2.2 t153 (⟨#[45,48,46,49]⟩ : ByteArray)).bind fun bt157 => (some bt157.1)) else (some t153))))) = some r:=h
 clear h
 replace H:=Option.bind_eq_some_iff.mp H
 obtain ⟨⟨t150,t151,t152⟩,A20,H⟩ := H
 replace H : ((spec_l21Text.f k (wrap64 (t150 - 400))).bind fun t153 => ((spec_l1Cur_one.f l0 t151 t152 3).bind fun bt154 => (if bt154.1 = true then ((spec_l1Cur_spoilt.f l0 bt154.2.1 bt154.2.2 t153 (⟨#[45,48,46,49]⟩ : ByteArray)).bind fun bt157 => (some bt157.1)) else (some t153)))) = some r:=H
 have A2:=Aside0.mk A20
 clear A20
 replace H:=Option.bind_eq_some_iff.mp H
 obtain ⟨t153,A30,H⟩ := H
 replace H : ((spec_l1Cur_one.f l0 t151 t152 3).bind fun bt154 => (if bt154.1 = true then ((spec_l1Cur_spoilt.f l0 bt154.2.1 bt154.2.2 t153 (⟨#[45,48,46,49]⟩ : ByteArray)).bind fun bt157 => (some bt157.1)) else (some t153))) = some r:=H
 have A3:=Aside0.mk A30
 clear A30
 replace H:=Option.bind_eq_some_iff.mp H
 obtain ⟨⟨t154,t155,t156⟩,A40,H⟩ := H
 replace H : (if t154 = true then ((spec_l1Cur_spoilt.f l0 t155 t156 t153 (⟨#[45,48,46,49]⟩ : ByteArray)).bind fun bt157 => (some bt157.1)) else (some t153)) = some r:=H
 have A4:=Aside0.mk A40
 clear A40
 by_cases c5 : t154 = true
 ·subst c5
  have H1 : ((spec_l1Cur_spoilt.f l0 t155 t156 t153 (⟨#[45,48,46,49]⟩ : ByteArray)).bind fun bt157 => (some bt157.1)) = some r:=by rw [if_pos rfl] at H;exact H
  clear H
  have H:=H1
  clear H1
  replace H:=Option.bind_eq_some_iff.mp H
  obtain ⟨⟨t157,t158,t159⟩,A60,H⟩ := H
  replace H : (some t157) = some r:=H
  have A6:=Aside0.mk A60
  clear A60
  obtain rfl:=Option.some.inj H
  go_enter Tryd.func9,Tryd.ntmps9
  go_wp2_with (first | ((with_reducible refine gate_dst (N:=7) rfl ?_);refine box_event ?hg (N:=7) ?hd (cs:=#[.slice A0 l0.length c0, .int .i64 0, .int .u64 0]) (t:=51) ?hr ?_;(case hd => rfl);(case hg => rfl);(case hr => (go_simp;done));intro gb149 hg w7 hbox hb;have n0_:=Aside0.mk (below_step (by exact HB.out) hb);have n1_:=Aside0.mk ((show IsS51 w _ gb149 l0 0 0 from ⟨_,_,hbox,(by rw [hg];exact (below_size (by exact HB.out)) : w.heap.size ≤ gb149),HR0.out⟩));clear HB;have HB:=n0_;have HI149:=n1_;clear n0_ n1_;clear hb hbox hg) | ((with_reducible refine gate_callee (f:=28) rfl ?_);refine goesL_ (some 9) rfl rfl Tryd.func28 (by kernel_rfl) rfl #[.pointer (some ⟨gb149,0,none⟩), .int .i64 801] rfl (by (try simp only [List.map_toArray,List.map_cons,List.map_nil]);rfl) ?_;(with_reducible refine (spec_l1Cur_pick.calls gb149 l0 0 0 801 t150 t151 t152 w _ ?side1 ?side2 A2.out).mono ?_);(case side1 => exact HI149.out);(case side2 => exact HB.out);rintro e w8 ⟨rfl,hi,hb,hk⟩;refine ⟨_,rfl, ?_⟩;have n0_:=Aside0.mk (hb);have n1_:=Aside0.mk (hi);clear HB;clear HI149;have HB:=n0_;have HI149:=n1_;clear n0_ n1_;(try clear hb);(try clear hk);(try clear hi)) | ((with_reducible refine gate_callee (f:=27) rfl ?_);refine goesL_ (some 11) rfl rfl Tryd.func27 (by kernel_rfl) rfl #[.int .i64 (wrap64 (t150 - 400))] rfl (by (try simp only [List.map_toArray,List.map_cons,List.map_nil]);rfl) ?_;(with_reducible refine (spec_l21Text.calls k (wrap64 (t150 - 400)) t153 _ A3.out).mono ?_);rintro e w9 ⟨rfl,hb⟩;refine ⟨_,rfl, ?_⟩;have n0_:=Aside0.mk (IsS51.below (by exact HI149.out) hb);have n1_:=Aside0.mk (below_step (by exact HB.out) hb);clear HI149;clear HB;have HI149:=n0_;have HB:=n1_;clear n0_ n1_;(try clear hb)) | ((with_reducible refine gate_callee (f:=29) rfl ?_);refine goesL_ (some 13) rfl rfl Tryd.func29 (by kernel_rfl) rfl #[.pointer (some ⟨gb149,0,none⟩), .int .i64 3] rfl (by (try simp only [List.map_toArray,List.map_cons,List.map_nil]);rfl) ?_;(with_reducible refine (spec_l1Cur_one.calls gb149 l0 t151 t152 3 true t155 t156 w _ ?side1 ?side2 A4.out).mono ?_);(case side1 => exact HI149.out);(case side2 => exact HB.out);rintro e w10 ⟨rfl,hi,hb,hk⟩;refine ⟨_,rfl, ?_⟩;have n0_:=Aside0.mk (hb);have n1_:=Aside0.mk (hi);clear HB;clear HI149;have HB:=n0_;have HI149:=n1_;clear n0_ n1_;(try clear hb);(try clear hk);(try clear hi)) | ((with_reducible refine gate_callee (f:=30) rfl ?_);refine goesL_ (some 16) rfl rfl Tryd.func30 (by kernel_rfl) rfl #[.pointer (some ⟨gb149,0,none⟩), .string t153, .string (⟨#[45,48,46,49]⟩ : ByteArray)] rfl (by (try simp only [List.map_toArray,List.map_cons,List.map_nil]);rfl) ?_;(with_reducible refine (spec_l1Cur_spoilt.calls gb149 l0 t155 t156 t153 (⟨#[45,48,46,49]⟩ : ByteArray) t157 t158 t159 w _ ?side1 ?side2 A6.out).mono ?_);(case side1 => exact HI149.out);(case side2 => exact HB.out);rintro e w11 ⟨rfl,hi,hb,hk⟩;refine ⟨_,rfl, ?_⟩;have n0_:=Aside0.mk (hb);have n1_:=Aside0.mk (hi);clear HB;clear HI149;have HB:=n0_;have HI149:=n1_;clear n0_ n1_;(try clear hb);(try clear hk);(try clear hi)))
  go_ret
  exact ⟨by rfl,by exact HB.out⟩
 ·replace c5:=Bool.eq_false_iff.mpr c5
  subst c5
  have H1 : (some t153) = some r:=by rw [if_neg (show ¬ (false = true) by decide)] at H;exact H
  clear H
  have H:=H1
  clear H1
  obtain rfl:=Option.some.inj H
  go_enter Tryd.func9,Tryd.ntmps9
  go_wp2_with (first | ((with_reducible refine gate_dst (N:=7) rfl ?_);refine box_event ?hg (N:=7) ?hd (cs:=#[.slice A0 l0.length c0, .int .i64 0, .int .u64 0]) (t:=51) ?hr ?_;(case hd => rfl);(case hg => rfl);(case hr => (go_simp;done));intro gb149 hg w12 hbox hb;have n0_:=Aside0.mk (below_step (by exact HB.out) hb);have n1_:=Aside0.mk ((show IsS51 w _ gb149 l0 0 0 from ⟨_,_,hbox,(by rw [hg];exact (below_size (by exact HB.out)) : w.heap.size ≤ gb149),HR0.out⟩));clear HB;have HB:=n0_;have HI149:=n1_;clear n0_ n1_;clear hb hbox hg) | ((with_reducible refine gate_callee (f:=28) rfl ?_);refine goesL_ (some 9) rfl rfl Tryd.func28 (by kernel_rfl) rfl #[.pointer (some ⟨gb149,0,none⟩), .int .i64 801] rfl (by (try simp only [List.map_toArray,List.map_cons,List.map_nil]);rfl) ?_;(with_reducible refine (spec_l1Cur_pick.calls gb149 l0 0 0 801 t150 t151 t152 w _ ?side1 ?side2 A2.out).mono ?_);(case side1 => exact HI149.out);(case side2 => exact HB.out);rintro e w13 ⟨rfl,hi,hb,hk⟩;refine ⟨_,rfl, ?_⟩;have n0_:=Aside0.mk (hb);have n1_:=Aside0.mk (hi);clear HB;clear HI149;have HB:=n0_;have HI149:=n1_;clear n0_ n1_;(try clear hb);(try clear hk);(try clear hi)) | ((with_reducible refine gate_callee (f:=27) rfl ?_);refine goesL_ (some 11) rfl rfl Tryd.func27 (by kernel_rfl) rfl #[.int .i64 (wrap64 (t150 - 400))] rfl (by (try simp only [List.map_toArray,List.map_cons,List.map_nil]);rfl) ?_;(with_reducible refine (spec_l21Text.calls k (wrap64 (t150 - 400)) t153 _ A3.out).mono ?_);rintro e w14 ⟨rfl,hb⟩;refine ⟨_,rfl, ?_⟩;have n0_:=Aside0.mk (IsS51.below (by exact HI149.out) hb);have n1_:=Aside0.mk (below_step (by exact HB.out) hb);clear HI149;clear HB;have HI149:=n0_;have HB:=n1_;clear n0_ n1_;(try clear hb)) | ((with_reducible refine gate_callee (f:=29) rfl ?_);refine goesL_ (some 13) rfl rfl Tryd.func29 (by kernel_rfl) rfl #[.pointer (some ⟨gb149,0,none⟩), .int .i64 3] rfl (by (try simp only [List.map_toArray,List.map_cons,List.map_nil]);rfl) ?_;(with_reducible refine (spec_l1Cur_one.calls gb149 l0 t151 t152 3 false t155 t156 w _ ?side1 ?side2 A4.out).mono ?_);(case side1 => exact HI149.out);(case side2 => exact HB.out);rintro e w15 ⟨rfl,hi,hb,hk⟩;refine ⟨_,rfl, ?_⟩;have n0_:=Aside0.mk (hb);have n1_:=Aside0.mk (hi);clear HB;clear HI149;have HB:=n0_;have HI149:=n1_;clear n0_ n1_;(try clear hb);(try clear hk);(try clear hi)))
  go_ret
  exact ⟨by rfl,by exact HB.out⟩

/-! ### spec_ParseTenth: function 10 -/
def spec_ParseTenth.l0 : Nat → ByteArray → Int → Option (Int × Bool)
 | 0,_,_ => none
 | k + 1,x0,x4 => if x4 ≤ 400 then ((spec_l21Text.f k x4).bind fun t160 => (if t160.toList = x0.toList then (some (x4,true)) else (spec_ParseTenth.l0 k x0 (wrap64 (x4 + 1))))) else (some (0,false))
def spec_ParseTenth.f (k : Nat) (a0 : ByteArray) : Option (Int × Bool):=spec_ParseTenth.l0 k a0 (-400)
theorem spec_ParseTenth.mono_l : ∀ k,(∀ y0 y1,LeO (spec_ParseTenth.l0 k y0 y1) (spec_ParseTenth.l0 (k + 1) y0 y1))
 | 0 => fun _ _ r h => by simp [spec_ParseTenth.l0] at h
 | k + 1 => by
  have ih0:=spec_ParseTenth.mono_l k
  ·intro y0 y1
   unfold spec_ParseTenth.l0
   repeat' first
   | (with_reducible exact ih0 _ _)
   | (with_reducible exact spec_l21Text.mono _ _)
   | (with_reducible exact LeO.refl _)
   | (with_reducible exact LeO.none _)
   | (with_reducible refine LeO.ite ?_ ?_)
   | (with_reducible refine LeO.bind ?_ (fun _ => ?_))
   | exact ih0 _ _
   | exact spec_l21Text.mono _ _
   | exact LeO.none _
   | refine LeO.ite ?_ ?_
   | refine LeO.bind ?_ (fun _ => ?_)
theorem spec_ParseTenth.mono : ∀ a0 k,LeO (spec_ParseTenth.f k a0) (spec_ParseTenth.f (k + 1) a0):=by
 intro a0 k
 have ih0:=spec_ParseTenth.mono_l k
 unfold spec_ParseTenth.f
 repeat' first
   | (with_reducible exact ih0 _ _)
   | (with_reducible exact spec_l21Text.mono _ _)
   | (with_reducible exact LeO.refl _)
   | (with_reducible exact LeO.none _)
   | (with_reducible refine LeO.ite ?_ ?_)
   | (with_reducible refine LeO.bind ?_ (fun _ => ?_))
   | exact ih0 _ _
   | exact spec_l21Text.mono _ _
   | exact LeO.none _
   | refine LeO.ite ?_ ?_
   | refine LeO.bind ?_ (fun _ => ?_)
set_option maxHeartbeats 8000000 in
set_option maxRecDepth 100000 in
theorem spec_ParseTenth.calls (k : Nat) (a0 : ByteArray) (r1 : Int) (r2 : Bool) (w : World) (h : spec_ParseTenth.f k a0 = some (r1,r2)) :
  Calls Tryd.prog 10 #[.string a0] w fun e w' => e = .returned (.tuple #[.int .i64 r1, .bool r2]) ∧ Below w.heap.size w w':=by
 have HB:=Aside0.mk (Below.refl w.heap.size w)
 have H : (spec_ParseTenth.l0 k a0 (-400)) = some (r1,r2):=h
 clear h
 have H':=Aside0.mk H
 clear H
 go_enter Tryd.func10,Tryd.ntmps10
 go_wp2
 go_loopg [4] k (fun kq v4 w' => ∃ (x4_1 : Int),v4 = .int .i64 x4_1 ∧ Aside0 (spec_ParseTenth.l0 kq a0 x4_1 = some (r1,r2)) ∧ Aside0 (kq ≤ k) ∧ Aside0 (Below w.heap.size w w'))
 case atStart => exact ⟨((-400)),(by rfl),H',⟨Nat.le_refl _⟩,⟨by exact HB.out⟩⟩
 case round =>
  clear H'
  try clear c1
  obtain ⟨x4_1,rfl,HA,HK1,HB⟩ := hrel
  cases gk with
  | zero => exact absurd HA.out (by simp [spec_ParseTenth.l0])
  | succ k1 =>
   have H:=HA.out
   clear HA
   simp only [spec_ParseTenth.l0] at H
   by_cases c2 : x4_1 ≤ 400
   ·rw [if_pos c2] at H
    have c2b0 : decide (x4_1 ≤ 400) = true:=decide_eq_true c2
    clear c2
    replace H:=Option.bind_eq_some_iff.mp H
    obtain ⟨t160,A30,H⟩ := H
    replace H : (if t160.toList = a0.toList then (some (x4_1,true)) else (spec_ParseTenth.l0 k1 a0 (wrap64 (x4_1 + 1)))) = some (r1,r2):=H
    have A3:=Aside0.mk A30
    clear A30
    by_cases c4 : t160.toList = a0.toList
    ·rw [if_pos c4] at H
     have c4b0 : (t160.toList == a0.toList) = true:=beq_iff_eq.mpr c4
     have c4b1 : (t160.toList != a0.toList) = false:=bne_eq_false_iff_eq.mpr c4
     clear c4
     simp only [Option.some.injEq,Prod.mk.injEq] at H
     obtain ⟨rfl,rfl⟩ := H
     go_wp2_with (((with_reducible refine gate_callee (f:=27) rfl ?_);refine goesL_ (some 10) rfl rfl Tryd.func27 (by kernel_rfl) rfl #[.int .i64 x4_1] rfl (by (try simp only [List.map_toArray,List.map_cons,List.map_nil]);rfl) ?_;(with_reducible refine (spec_l21Text.calls k1 x4_1 t160 _ A3.out).mono ?_);rintro e w5 ⟨rfl,hb⟩;refine ⟨_,rfl, ?_⟩;have n0_:=Aside0.mk (below_step (by exact HB.out) hb);clear HB;have HB:=n0_;clear n0_;(try clear hb)))
     go_ret2
     exact ⟨by rfl,by exact HB.out⟩
    ·rw [if_neg c4] at H
     have c4b0 : (t160.toList == a0.toList) = false:=beq_eq_false_iff_ne.mpr c4
     have c4b1 : (t160.toList != a0.toList) = true:=bne_iff_ne.mpr c4
     have H':=Aside0.mk H
     clear H
     go_wp2_with (((with_reducible refine gate_callee (f:=27) rfl ?_);refine goesL_ (some 10) rfl rfl Tryd.func27 (by kernel_rfl) rfl #[.int .i64 x4_1] rfl (by (try simp only [List.map_toArray,List.map_cons,List.map_nil]);rfl) ?_;(with_reducible refine (spec_l21Text.calls k1 x4_1 t160 _ A3.out).mono ?_);rintro e w6 ⟨rfl,hb⟩;refine ⟨_,rfl, ?_⟩;have n0_:=Aside0.mk (below_step (by exact HB.out) hb);clear HB;have HB:=n0_;clear n0_;(try clear hb)))
     go_roundg k1
     case measure => have:=HK1.out;omega
     case rel => exact ⟨(wrap64 (x4_1 + 1)),(by rfl),H',⟨by have:=HK1.out;omega⟩,⟨by exact HB.out⟩⟩
   ·rw [if_neg c2] at H
    have c2b0 : decide (x4_1 ≤ 400) = false:=decide_eq_false c2
    clear c2
    simp only [Option.some.injEq,Prod.mk.injEq] at H
    obtain ⟨rfl,rfl⟩ := H
    go_wp2
    go_ret2
    exact ⟨by rfl,by exact HB.out⟩

end Go.Proofs.YtpelcaijjdgnoaaDoor.PFnReadings
