-- Written by a program of this session, over the kit's print (wip/xprint.py)
import Derived.Test.YticnpofbcblgaaaDoorPFnExactParseTenthx0
import Derived.Test.YticnpofbcblgaaaDoorPFnExactParseTenthx1
namespace Go.Proofs.YticnpofbcblgaaaDoor.PFnExactParseTenth
open Go.RowKit Go.Proofs.YticnpofbcblgaaaDoorW.PrintWords Go.Proofs.YticnpofbcblgaaaDoorW.PrintLast Go.Proofs.YticnpofbcblgaaaDoorW.PrintMore
attribute [local go_sem] max2_int min2_int max_two min_two max_three min_three max_four min_four   -- for this text's walks alone
set_option linter.unusedVariables false
set_option linter.unusedSimpArgs false

/-! ### impl_tenthText: function 12 -/
def impl_tenthText.f (a0 : Int) : Option (ByteArray) := if a0 < 0 then ((impl_size.f a0).bind fun t129 => ((impl_decimal.f (wrap64 (Int.tdiv t129 10))).bind fun t130 => (if 1 + t130.size ≤ 9223372036854775807 then (if ((⟨#[45]⟩ : ByteArray) ++ t130).size + 1 ≤ 9223372036854775807 then ((impl_decimal.f (Int.tmod t129 10)).bind fun t131 => (if (((⟨#[45]⟩ : ByteArray) ++ t130) ++ (⟨#[46]⟩ : ByteArray)).size + t131.size ≤ 9223372036854775807 then (some ((((⟨#[45]⟩ : ByteArray) ++ t130) ++ (⟨#[46]⟩ : ByteArray)) ++ t131)) else (none))) else (none)) else (none)))) else ((impl_size.f a0).bind fun t132 => ((impl_decimal.f (wrap64 (Int.tdiv t132 10))).bind fun t133 => (if 0 + t133.size ≤ 9223372036854775807 then (if ((⟨#[]⟩ : ByteArray) ++ t133).size + 1 ≤ 9223372036854775807 then ((impl_decimal.f (Int.tmod t132 10)).bind fun t134 => (if (((⟨#[]⟩ : ByteArray) ++ t133) ++ (⟨#[46]⟩ : ByteArray)).size + t134.size ≤ 9223372036854775807 then (some ((((⟨#[]⟩ : ByteArray) ++ t133) ++ (⟨#[46]⟩ : ByteArray)) ++ t134)) else (none))) else (none)) else (none))))
set_option maxHeartbeats 8000000 in
set_option maxRecDepth 100000 in
theorem impl_tenthText.calls (a0 : Int) (r : ByteArray) (w : World) (h : impl_tenthText.f a0 = some r) :
    Calls Tryd.prog 12 #[.int .i64 a0] w fun e w' => e = .returned (.string r) ∧ Below w.heap.size w w' := by
  have HB := Aside0.mk (Below.refl w.heap.size w)
  have H : (if a0 < 0 then ((impl_size.f a0).bind fun t129 => ((impl_decimal.f (wrap64 (Int.tdiv t129 10))).bind fun t130 => (if 1 + t130.size ≤ 9223372036854775807 then (if ((⟨#[45]⟩ : ByteArray) ++ t130).size + 1 ≤ 9223372036854775807 then ((impl_decimal.f (Int.tmod t129 10)).bind fun t131 => (if (((⟨#[45]⟩ : ByteArray) ++ t130) ++ (⟨#[46]⟩ : ByteArray)).size + t131.size ≤ 9223372036854775807 then (some ((((⟨#[45]⟩ : ByteArray) ++ t130) ++ (⟨#[46]⟩ : ByteArray)) ++ t131)) else (none))) else (none)) else (none)))) else ((impl_size.f a0).bind fun t132 => ((impl_decimal.f (wrap64 (Int.tdiv t132 10))).bind fun t133 => (if 0 + t133.size ≤ 9223372036854775807 then (if ((⟨#[]⟩ : ByteArray) ++ t133).size + 1 ≤ 9223372036854775807 then ((impl_decimal.f (Int.tmod t132 10)).bind fun t134 => (if (((⟨#[]⟩ : ByteArray) ++ t133) ++ (⟨#[46]⟩ : ByteArray)).size + t134.size ≤ 9223372036854775807 then (some ((((⟨#[]⟩ : ByteArray) ++ t133) ++ (⟨#[46]⟩ : ByteArray)) ++ t134)) else (none))) else (none)) else (none))))) = some r := h
  clear h
  by_cases c2 : a0 < 0
  · rw [if_pos c2] at H
    have c2b0 : decide (a0 < 0) = true := decide_eq_true c2
    clear c2
    replace H := Option.bind_eq_some_iff.mp H
    obtain ⟨t129, A30, H⟩ := H
    replace H : ((impl_decimal.f (wrap64 (Int.tdiv t129 10))).bind fun t130 => (if 1 + t130.size ≤ 9223372036854775807 then (if ((⟨#[45]⟩ : ByteArray) ++ t130).size + 1 ≤ 9223372036854775807 then ((impl_decimal.f (Int.tmod t129 10)).bind fun t131 => (if (((⟨#[45]⟩ : ByteArray) ++ t130) ++ (⟨#[46]⟩ : ByteArray)).size + t131.size ≤ 9223372036854775807 then (some ((((⟨#[45]⟩ : ByteArray) ++ t130) ++ (⟨#[46]⟩ : ByteArray)) ++ t131)) else (none))) else (none)) else (none))) = some r := H
    have A3 := Aside0.mk A30
    clear A30
    replace H := Option.bind_eq_some_iff.mp H
    obtain ⟨t130, A40, H⟩ := H
    replace H : (if 1 + t130.size ≤ 9223372036854775807 then (if ((⟨#[45]⟩ : ByteArray) ++ t130).size + 1 ≤ 9223372036854775807 then ((impl_decimal.f (Int.tmod t129 10)).bind fun t131 => (if (((⟨#[45]⟩ : ByteArray) ++ t130) ++ (⟨#[46]⟩ : ByteArray)).size + t131.size ≤ 9223372036854775807 then (some ((((⟨#[45]⟩ : ByteArray) ++ t130) ++ (⟨#[46]⟩ : ByteArray)) ++ t131)) else (none))) else (none)) else (none)) = some r := H
    have A4 := Aside0.mk A40
    clear A40
    by_cases c5 : 1 + t130.size ≤ 9223372036854775807
    · rw [if_pos c5] at H
      have c5b0 := eq_true c5
      have c5b1 : decide (1 + t130.size ≤ 9223372036854775807) = true := decide_eq_true c5
      try have c5b2 : (9223372036854775807 < 1 + t130.size) = False := eq_false (Nat.not_lt.2 c5)
      by_cases c6 : ((⟨#[45]⟩ : ByteArray) ++ t130).size + 1 ≤ 9223372036854775807
      · rw [if_pos c6] at H
        have c6b0 := eq_true c6
        have c6b1 : decide (((⟨#[45]⟩ : ByteArray) ++ t130).size + 1 ≤ 9223372036854775807) = true := decide_eq_true c6
        try have c6b2 : (9223372036854775807 < ((⟨#[45]⟩ : ByteArray) ++ t130).size + 1) = False := eq_false (Nat.not_lt.2 c6)
        try have c6b4 : (9223372036854775807 < 1 + t130.size + 1) = False := by have h_ := c6; simp only [ByteArray.size_append, show (⟨#[45]⟩ : ByteArray).size = 1 from rfl] at h_; exact eq_false (by omega)
        replace H := Option.bind_eq_some_iff.mp H
        obtain ⟨t131, A70, H⟩ := H
        replace H : (if (((⟨#[45]⟩ : ByteArray) ++ t130) ++ (⟨#[46]⟩ : ByteArray)).size + t131.size ≤ 9223372036854775807 then (some ((((⟨#[45]⟩ : ByteArray) ++ t130) ++ (⟨#[46]⟩ : ByteArray)) ++ t131)) else (none)) = some r := H
        have A7 := Aside0.mk A70
        clear A70
        by_cases c8 : (((⟨#[45]⟩ : ByteArray) ++ t130) ++ (⟨#[46]⟩ : ByteArray)).size + t131.size ≤ 9223372036854775807
        · rw [if_pos c8] at H
          have c8b0 := eq_true c8
          have c8b1 : decide ((((⟨#[45]⟩ : ByteArray) ++ t130) ++ (⟨#[46]⟩ : ByteArray)).size + t131.size ≤ 9223372036854775807) = true := decide_eq_true c8
          try have c8b2 : (9223372036854775807 < (((⟨#[45]⟩ : ByteArray) ++ t130) ++ (⟨#[46]⟩ : ByteArray)).size + t131.size) = False := eq_false (Nat.not_lt.2 c8)
          try have c8b4 : (9223372036854775807 < 1 + t130.size + 1 + t131.size) = False := by have h_ := c8; simp only [ByteArray.size_append, show (⟨#[45]⟩ : ByteArray).size = 1 from rfl, show (⟨#[46]⟩ : ByteArray).size = 1 from rfl] at h_; exact eq_false (by omega)
          obtain rfl := Option.some.inj H
          go_enter Tryd.func12, Tryd.ntmps12
          go_wp2_with (first | ((with_reducible refine gate_callee (f := 14) rfl ?_); refine goesL_ (some 8) rfl rfl Tryd.func14 (by kernel_rfl) rfl #[.int .i64 a0] rfl (by (try simp only [List.map_toArray, List.map_cons, List.map_nil]); first | done | rfl | (simp only [List.length_drop, List.length_take]; rfl)) ?_; (with_reducible refine (impl_size.calls a0 t129 _ A3.out).mono ?_); rintro e w9 ⟨rfl, hb⟩; refine ⟨_, rfl, ?_⟩; have n0_ := Aside0.mk (below_step (by repeat (first | (with_reducible first | exact HB.out | apply below_alloc | apply pw_below_drewN | apply below_drew1) | exact HB.out)) hb); clear HB; have HB := n0_; clear n0_; (try clear hb); (try clear hb2); (try clear hk); (try clear hi)) | ((with_reducible refine gate_callee (f := 15) rfl ?_); refine goesL_ (some 12) rfl rfl Tryd.func15 (by kernel_rfl) rfl #[.int .i64 (wrap64 (Int.tdiv t129 10))] rfl (by (try simp only [List.map_toArray, List.map_cons, List.map_nil]); first | done | rfl | (simp only [List.length_drop, List.length_take]; rfl)) ?_; (with_reducible refine (impl_decimal.calls (wrap64 (Int.tdiv t129 10)) t130 _ A4.out).mono ?_); rintro e w' ⟨rfl, ⟨nd, rfl⟩⟩; refine ⟨_, rfl, ?_⟩) | ((with_reducible refine gate_callee (f := 15) rfl ?_); refine goesL_ (some 17) rfl rfl Tryd.func15 (by kernel_rfl) rfl #[.int .i64 (Int.tmod t129 10)] rfl (by (try simp only [List.map_toArray, List.map_cons, List.map_nil]); first | done | rfl | (simp only [List.length_drop, List.length_take]; rfl)) ?_; (with_reducible refine (impl_decimal.calls (Int.tmod t129 10) t131 _ A7.out).mono ?_); rintro e w' ⟨rfl, ⟨nd, rfl⟩⟩; refine ⟨_, rfl, ?_⟩))
          go_ret
          exact ⟨by first | rfl | (simp [errW_none, errW_some] <;> rfl) | (simp [*, errW_none, errW_some] <;> rfl), by repeat (first | (with_reducible first | exact HB.out | apply below_alloc | apply pw_below_drewN | apply below_drew1) | exact HB.out)⟩
        · rw [if_neg c8] at H
          exact absurd H (by simp)
      · rw [if_neg c6] at H
        exact absurd H (by simp)
    · rw [if_neg c5] at H
      exact absurd H (by simp)
  · rw [if_neg c2] at H
    have c2b0 : decide (a0 < 0) = false := decide_eq_false c2
    clear c2
    replace H := Option.bind_eq_some_iff.mp H
    obtain ⟨t132, A100, H⟩ := H
    replace H : ((impl_decimal.f (wrap64 (Int.tdiv t132 10))).bind fun t133 => (if 0 + t133.size ≤ 9223372036854775807 then (if ((⟨#[]⟩ : ByteArray) ++ t133).size + 1 ≤ 9223372036854775807 then ((impl_decimal.f (Int.tmod t132 10)).bind fun t134 => (if (((⟨#[]⟩ : ByteArray) ++ t133) ++ (⟨#[46]⟩ : ByteArray)).size + t134.size ≤ 9223372036854775807 then (some ((((⟨#[]⟩ : ByteArray) ++ t133) ++ (⟨#[46]⟩ : ByteArray)) ++ t134)) else (none))) else (none)) else (none))) = some r := H
    have A10 := Aside0.mk A100
    clear A100
    replace H := Option.bind_eq_some_iff.mp H
    obtain ⟨t133, A110, H⟩ := H
    replace H : (if 0 + t133.size ≤ 9223372036854775807 then (if ((⟨#[]⟩ : ByteArray) ++ t133).size + 1 ≤ 9223372036854775807 then ((impl_decimal.f (Int.tmod t132 10)).bind fun t134 => (if (((⟨#[]⟩ : ByteArray) ++ t133) ++ (⟨#[46]⟩ : ByteArray)).size + t134.size ≤ 9223372036854775807 then (some ((((⟨#[]⟩ : ByteArray) ++ t133) ++ (⟨#[46]⟩ : ByteArray)) ++ t134)) else (none))) else (none)) else (none)) = some r := H
    have A11 := Aside0.mk A110
    clear A110
    by_cases c12 : 0 + t133.size ≤ 9223372036854775807
    · rw [if_pos c12] at H
      have c12b0 := eq_true c12
      have c12b1 : decide (0 + t133.size ≤ 9223372036854775807) = true := decide_eq_true c12
      try have c12b2 : (9223372036854775807 < 0 + t133.size) = False := eq_false (Nat.not_lt.2 c12)
      by_cases c13 : ((⟨#[]⟩ : ByteArray) ++ t133).size + 1 ≤ 9223372036854775807
      · rw [if_pos c13] at H
        have c13b0 := eq_true c13
        have c13b1 : decide (((⟨#[]⟩ : ByteArray) ++ t133).size + 1 ≤ 9223372036854775807) = true := decide_eq_true c13
        try have c13b2 : (9223372036854775807 < ((⟨#[]⟩ : ByteArray) ++ t133).size + 1) = False := eq_false (Nat.not_lt.2 c13)
        try have c13b4 : (9223372036854775807 < t133.size + 1) = False := by have h_ := c13; simp only [ByteArray.size_append, show (⟨#[]⟩ : ByteArray).size = 0 from rfl] at h_; exact eq_false (by omega)
        replace H := Option.bind_eq_some_iff.mp H
        obtain ⟨t134, A140, H⟩ := H
        replace H : (if (((⟨#[]⟩ : ByteArray) ++ t133) ++ (⟨#[46]⟩ : ByteArray)).size + t134.size ≤ 9223372036854775807 then (some ((((⟨#[]⟩ : ByteArray) ++ t133) ++ (⟨#[46]⟩ : ByteArray)) ++ t134)) else (none)) = some r := H
        have A14 := Aside0.mk A140
        clear A140
        by_cases c15 : (((⟨#[]⟩ : ByteArray) ++ t133) ++ (⟨#[46]⟩ : ByteArray)).size + t134.size ≤ 9223372036854775807
        · rw [if_pos c15] at H
          have c15b0 := eq_true c15
          have c15b1 : decide ((((⟨#[]⟩ : ByteArray) ++ t133) ++ (⟨#[46]⟩ : ByteArray)).size + t134.size ≤ 9223372036854775807) = true := decide_eq_true c15
          try have c15b2 : (9223372036854775807 < (((⟨#[]⟩ : ByteArray) ++ t133) ++ (⟨#[46]⟩ : ByteArray)).size + t134.size) = False := eq_false (Nat.not_lt.2 c15)
          try have c15b4 : (9223372036854775807 < t133.size + 1 + t134.size) = False := by have h_ := c15; simp only [ByteArray.size_append, show (⟨#[46]⟩ : ByteArray).size = 1 from rfl, show (⟨#[]⟩ : ByteArray).size = 0 from rfl] at h_; exact eq_false (by omega)
          obtain rfl := Option.some.inj H
          go_enter Tryd.func12, Tryd.ntmps12
          go_wp2_with (first | ((with_reducible refine gate_callee (f := 14) rfl ?_); refine goesL_ (some 8) rfl rfl Tryd.func14 (by kernel_rfl) rfl #[.int .i64 a0] rfl (by (try simp only [List.map_toArray, List.map_cons, List.map_nil]); first | done | rfl | (simp only [List.length_drop, List.length_take]; rfl)) ?_; (with_reducible refine (impl_size.calls a0 t132 _ A10.out).mono ?_); rintro e w16 ⟨rfl, hb⟩; refine ⟨_, rfl, ?_⟩; have n0_ := Aside0.mk (below_step (by repeat (first | (with_reducible first | exact HB.out | apply below_alloc | apply pw_below_drewN | apply below_drew1) | exact HB.out)) hb); clear HB; have HB := n0_; clear n0_; (try clear hb); (try clear hb2); (try clear hk); (try clear hi)) | ((with_reducible refine gate_callee (f := 15) rfl ?_); refine goesL_ (some 12) rfl rfl Tryd.func15 (by kernel_rfl) rfl #[.int .i64 (wrap64 (Int.tdiv t132 10))] rfl (by (try simp only [List.map_toArray, List.map_cons, List.map_nil]); first | done | rfl | (simp only [List.length_drop, List.length_take]; rfl)) ?_; (with_reducible refine (impl_decimal.calls (wrap64 (Int.tdiv t132 10)) t133 _ A11.out).mono ?_); rintro e w' ⟨rfl, ⟨nd, rfl⟩⟩; refine ⟨_, rfl, ?_⟩) | ((with_reducible refine gate_callee (f := 15) rfl ?_); refine goesL_ (some 17) rfl rfl Tryd.func15 (by kernel_rfl) rfl #[.int .i64 (Int.tmod t132 10)] rfl (by (try simp only [List.map_toArray, List.map_cons, List.map_nil]); first | done | rfl | (simp only [List.length_drop, List.length_take]; rfl)) ?_; (with_reducible refine (impl_decimal.calls (Int.tmod t132 10) t134 _ A14.out).mono ?_); rintro e w' ⟨rfl, ⟨nd, rfl⟩⟩; refine ⟨_, rfl, ?_⟩))
          go_ret
          exact ⟨by first | rfl | (simp [errW_none, errW_some] <;> rfl) | (simp [*, errW_none, errW_some] <;> rfl), by repeat (first | (with_reducible first | exact HB.out | apply below_alloc | apply pw_below_drewN | apply below_drew1) | exact HB.out)⟩
        · rw [if_neg c15] at H
          exact absurd H (by simp)
      · rw [if_neg c13] at H
        exact absurd H (by simp)
    · rw [if_neg c12] at H
      exact absurd H (by simp)

/-! ### impl_ParseTenth: function 8 -/
def impl_ParseTenth.l0 : Nat → ByteArray → Int → Option (Int × Bool)
  | 0, _, _ => none
  | k + 1, x0, x4 => if x4 ≤ 400 then ((impl_tenthText.f x4).bind fun t135 => (if t135.toList = x0.toList then (some (x4, true)) else (impl_ParseTenth.l0 k x0 (wrap64 (x4 + 1))))) else (some (0, false))
def impl_ParseTenth.f (k : Nat) (a0 : ByteArray) : Option (Int × Bool) := impl_ParseTenth.l0 k a0 (-400)
theorem impl_ParseTenth.mono_l : ∀ k, (∀ y0 y1, LeO (impl_ParseTenth.l0 k y0 y1) (impl_ParseTenth.l0 (k + 1) y0 y1))
  | 0 => fun _ _ r h => by simp [impl_ParseTenth.l0] at h
  | k + 1 => by
    have ih0 := impl_ParseTenth.mono_l k
    · intro y0 y1
      unfold impl_ParseTenth.l0
      repeat' first
      | (with_reducible exact ih0 _ _)
      | (with_reducible exact LeO.refl _)
      | (with_reducible exact LeO.none _)
      | (with_reducible refine LeO.ite ?_ ?_)
      | (with_reducible refine LeO.bind ?_ (fun _ => ?_))
      | exact ih0 _ _
      | exact LeO.none _
      | refine LeO.ite ?_ ?_
      | refine LeO.bind ?_ (fun _ => ?_)
theorem impl_ParseTenth.mono : ∀ a0 k, LeO (impl_ParseTenth.f k a0) (impl_ParseTenth.f (k + 1) a0) := by
  intro a0 k
  have ih0 := impl_ParseTenth.mono_l k
  unfold impl_ParseTenth.f
  repeat' first
      | (with_reducible exact ih0 _ _)
      | (with_reducible exact LeO.refl _)
      | (with_reducible exact LeO.none _)
      | (with_reducible refine LeO.ite ?_ ?_)
      | (with_reducible refine LeO.bind ?_ (fun _ => ?_))
      | exact ih0 _ _
      | exact LeO.none _
      | refine LeO.ite ?_ ?_
      | refine LeO.bind ?_ (fun _ => ?_)
set_option maxHeartbeats 8000000 in
set_option maxRecDepth 100000 in
theorem impl_ParseTenth.calls (k : Nat) (a0 : ByteArray) (r1 : Int) (r2 : Bool) (w : World) (h : impl_ParseTenth.f k a0 = some (r1, r2)) :
    Calls Tryd.prog 8 #[.string a0] w fun e w' => e = .returned (.tuple #[.int .i64 r1, .bool r2]) ∧ Below w.heap.size w w' := by
  have HB := Aside0.mk (Below.refl w.heap.size w)
  have H : (impl_ParseTenth.l0 k a0 (-400)) = some (r1, r2) := h
  clear h
  have H' := Aside0.mk H
  clear H
  go_enter Tryd.func8, Tryd.ntmps8
  go_wp2
  go_loopg [4] k (fun kq v4 w' => ∃ (x4_1 : Int), v4 = .int .i64 x4_1 ∧ Aside0 (impl_ParseTenth.l0 kq a0 x4_1 = some (r1, r2)) ∧ Aside0 (kq ≤ k) ∧ Aside0 (Below w.heap.size w w'))
  case atStart => exact ⟨((-400)), (by first | rfl | (simp; done) | (simp [*]; done)), H', ⟨Nat.le_refl _⟩, ⟨by repeat (first | (with_reducible first | exact HB.out | apply below_alloc | apply pw_below_drewN | apply below_drew1) | exact HB.out)⟩⟩
  case round =>
    clear H'
    obtain ⟨x4_1, rfl, HA, HK1, HB⟩ := hrel
    cases gk with
    | zero => exact absurd HA.out (by simp [impl_ParseTenth.l0])
    | succ k1 =>
      have H := HA.out
      clear HA
      simp only [impl_ParseTenth.l0] at H
      by_cases c2 : x4_1 ≤ 400
      · rw [if_pos c2] at H
        have c2b0 : decide (x4_1 ≤ 400) = true := decide_eq_true c2
        clear c2
        replace H := Option.bind_eq_some_iff.mp H
        obtain ⟨t135, A30, H⟩ := H
        replace H : (if t135.toList = a0.toList then (some (x4_1, true)) else (impl_ParseTenth.l0 k1 a0 (wrap64 (x4_1 + 1)))) = some (r1, r2) := H
        have A3 := Aside0.mk A30
        clear A30
        by_cases c4 : t135.toList = a0.toList
        · rw [if_pos c4] at H
          have c4b0 : (t135.toList == a0.toList) = true := beq_iff_eq.mpr c4
          have c4b1 : (t135.toList != a0.toList) = false := bne_eq_false_iff_eq.mpr c4
          clear c4
          simp only [Option.some.injEq, Prod.mk.injEq] at H
          obtain ⟨rfl, rfl⟩ := H
          go_wp2_with (first | ((with_reducible refine gate_callee (f := 12) rfl ?_); refine goesL_ (some 10) rfl rfl Tryd.func12 (by kernel_rfl) rfl #[.int .i64 x4_1] rfl (by (try simp only [List.map_toArray, List.map_cons, List.map_nil]); first | done | rfl | (simp only [List.length_drop, List.length_take]; rfl)) ?_; (with_reducible refine (impl_tenthText.calls x4_1 t135 _ A3.out).mono ?_); rintro e w5 ⟨rfl, hb⟩; refine ⟨_, rfl, ?_⟩; have n0_ := Aside0.mk (below_step (by repeat (first | (with_reducible first | exact HB.out | apply below_alloc | apply pw_below_drewN | apply below_drew1) | exact HB.out)) hb); clear HB; have HB := n0_; clear n0_; (try clear hb); (try clear hb2); (try clear hk); (try clear hi)))
          go_ret2
          exact ⟨by first | rfl | (simp [errW_none, errW_some] <;> rfl) | (simp [*, errW_none, errW_some] <;> rfl), by repeat (first | (with_reducible first | exact HB.out | apply below_alloc | apply pw_below_drewN | apply below_drew1) | exact HB.out)⟩
        · rw [if_neg c4] at H
          have c4b0 : (t135.toList == a0.toList) = false := beq_eq_false_iff_ne.mpr c4
          have c4b1 : (t135.toList != a0.toList) = true := bne_iff_ne.mpr c4
          have H' := Aside0.mk H
          clear H
          go_wp2_with (first | ((with_reducible refine gate_callee (f := 12) rfl ?_); refine goesL_ (some 10) rfl rfl Tryd.func12 (by kernel_rfl) rfl #[.int .i64 x4_1] rfl (by (try simp only [List.map_toArray, List.map_cons, List.map_nil]); first | done | rfl | (simp only [List.length_drop, List.length_take]; rfl)) ?_; (with_reducible refine (impl_tenthText.calls x4_1 t135 _ A3.out).mono ?_); rintro e w6 ⟨rfl, hb⟩; refine ⟨_, rfl, ?_⟩; have n0_ := Aside0.mk (below_step (by repeat (first | (with_reducible first | exact HB.out | apply below_alloc | apply pw_below_drewN | apply below_drew1) | exact HB.out)) hb); clear HB; have HB := n0_; clear n0_; (try clear hb); (try clear hb2); (try clear hk); (try clear hi)))
          go_roundg k1
          case measure => have := HK1.out; omega
          case rel => exact ⟨(wrap64 (x4_1 + 1)), (by first | rfl | (simp; done) | (simp [*]; done)), H', ⟨by have := HK1.out; omega⟩, ⟨by repeat (first | (with_reducible first | exact HB.out | apply below_alloc | apply pw_below_drewN | apply below_drew1) | exact HB.out)⟩⟩
      · rw [if_neg c2] at H
        have c2b0 : decide (x4_1 ≤ 400) = false := decide_eq_false c2
        clear c2
        simp only [Option.some.injEq, Prod.mk.injEq] at H
        obtain ⟨rfl, rfl⟩ := H
        go_wp2
        go_ret2
        exact ⟨by first | rfl | (simp [errW_none, errW_some] <;> rfl) | (simp [*, errW_none, errW_some] <;> rfl), by repeat (first | (with_reducible first | exact HB.out | apply below_alloc | apply pw_below_drewN | apply below_drew1) | exact HB.out)⟩

/-! ### laws_FnExactParseTenth: function 4 -/
def laws_FnExactParseTenth.f (k : Nat) (a0 : ByteArray) : Option (Bool) := if (a0.size : Int) > 1048576 then (some true) else ((spec_ParseTenth.f k a0).bind fun bt136 => ((impl_ParseTenth.f k a0).bind fun bt138 => (if bt138.1 = bt136.1 then (if (bt138.2 != bt136.2) = true then (some false) else (some true)) else (some false))))
theorem laws_FnExactParseTenth.mono : ∀ a0 k, LeO (laws_FnExactParseTenth.f k a0) (laws_FnExactParseTenth.f (k + 1) a0) := by
  intro a0 k
  unfold laws_FnExactParseTenth.f
  repeat' first
      | (with_reducible exact impl_ParseTenth.mono _ _)
      | (with_reducible exact spec_ParseTenth.mono _ _)
      | (with_reducible exact LeO.refl _)
      | (with_reducible exact LeO.none _)
      | (with_reducible refine LeO.ite ?_ ?_)
      | (with_reducible refine LeO.bind ?_ (fun _ => ?_))
      | exact impl_ParseTenth.mono _ _
      | exact spec_ParseTenth.mono _ _
      | exact LeO.none _
      | refine LeO.ite ?_ ?_
      | refine LeO.bind ?_ (fun _ => ?_)
set_option maxHeartbeats 8000000 in
set_option maxRecDepth 100000 in
theorem laws_FnExactParseTenth.calls (k : Nat) (a0 : ByteArray) (r : Bool) (w : World) (h : laws_FnExactParseTenth.f k a0 = some r) :
    Calls Tryd.prog 4 #[.string a0] w fun e w' => e = .returned (.bool r) ∧ Below w.heap.size w w' := by
  have HB := Aside0.mk (Below.refl w.heap.size w)
  have H : (if (a0.size : Int) > 1048576 then (some true) else ((spec_ParseTenth.f k a0).bind fun bt136 => ((impl_ParseTenth.f k a0).bind fun bt138 => (if bt138.1 = bt136.1 then (if (bt138.2 != bt136.2) = true then (some false) else (some true)) else (some false))))) = some r := h
  clear h
  by_cases c2 : (a0.size : Int) > 1048576
  · rw [if_pos c2] at H
    have c2b0 : decide (1048576 < (a0.size : Int)) = true := decide_eq_true c2
    have c2b1 : decide (1048576 < a0.size) = true := decide_eq_true (by omega)
    clear c2
    obtain rfl := Option.some.inj H
    go_enter Tryd.func4, Tryd.ntmps4
    go_wp2
    go_ret
    exact ⟨by first | rfl | (simp [errW_none, errW_some] <;> rfl) | (simp [*, errW_none, errW_some] <;> rfl), by repeat (first | (with_reducible first | exact HB.out | apply below_alloc | apply pw_below_drewN | apply below_drew1) | exact HB.out)⟩
  · rw [if_neg c2] at H
    have c2b0 : decide (1048576 < (a0.size : Int)) = false := decide_eq_false c2
    have c2b1 : decide (1048576 < a0.size) = false := decide_eq_false (by omega)
    clear c2
    replace H := Option.bind_eq_some_iff.mp H
    obtain ⟨⟨t136, t137⟩, A30, H⟩ := H
    replace H : ((impl_ParseTenth.f k a0).bind fun bt138 => (if bt138.1 = t136 then (if (bt138.2 != t137) = true then (some false) else (some true)) else (some false))) = some r := H
    have A3 := Aside0.mk A30
    clear A30
    replace H := Option.bind_eq_some_iff.mp H
    obtain ⟨⟨t138, t139⟩, A40, H⟩ := H
    replace H : (if t138 = t136 then (if (t139 != t137) = true then (some false) else (some true)) else (some false)) = some r := H
    have A4 := Aside0.mk A40
    clear A40
    by_cases c5 : t138 = t136
    · rw [if_pos c5] at H
      have c5b0 : (t138 == t136) = true := beq_iff_eq.mpr c5
      have c5b1 : (t138 != t136) = false := bne_eq_false_iff_eq.mpr c5
      clear c5
      by_cases c6 : (t139 != t137) = true
      · rw [if_pos c6] at H
        have c6b0 : (t139 != t137) = true := c6
        (try (have c6b1 : decide (t139 = t137) = false := by simpa using c6))
        (try (have c6b2 : (t139 == t137) = false := by simpa using c6))
        (try (have c6b3 : ¬ (t139 = t137) := by simpa using c6))
        clear c6
        obtain rfl := Option.some.inj H
        go_enter Tryd.func4, Tryd.ntmps4
        go_wp2_with (first | ((with_reducible refine gate_callee (f := 7) rfl ?_); refine goesL_ (some 12) rfl rfl Tryd.func7 (by kernel_rfl) rfl #[.string a0] rfl (by (try simp only [List.map_toArray, List.map_cons, List.map_nil]); first | done | rfl | (simp only [List.length_drop, List.length_take]; rfl)) ?_; (with_reducible refine (spec_ParseTenth.calls k a0 t136 t137 _ A3.out).mono ?_); rintro e w7 ⟨rfl, hb⟩; refine ⟨_, rfl, ?_⟩; have n0_ := Aside0.mk (below_step (by repeat (first | (with_reducible first | exact HB.out | apply below_alloc | apply pw_below_drewN | apply below_drew1) | exact HB.out)) hb); clear HB; have HB := n0_; clear n0_; (try clear hb); (try clear hb2); (try clear hk); (try clear hi)) | ((with_reducible refine gate_callee (f := 8) rfl ?_); refine goesL_ (some 17) rfl rfl Tryd.func8 (by kernel_rfl) rfl #[.string a0] rfl (by (try simp only [List.map_toArray, List.map_cons, List.map_nil]); first | done | rfl | (simp only [List.length_drop, List.length_take]; rfl)) ?_; (with_reducible refine (impl_ParseTenth.calls k a0 t138 t139 _ A4.out).mono ?_); rintro e w8 ⟨rfl, hb⟩; refine ⟨_, rfl, ?_⟩; have n0_ := Aside0.mk (below_step (by repeat (first | (with_reducible first | exact HB.out | apply below_alloc | apply pw_below_drewN | apply below_drew1) | exact HB.out)) hb); clear HB; have HB := n0_; clear n0_; (try clear hb); (try clear hb2); (try clear hk); (try clear hi)))
        go_ret
        exact ⟨by first | rfl | (simp [errW_none, errW_some] <;> rfl) | (simp [*, errW_none, errW_some] <;> rfl), by repeat (first | (with_reducible first | exact HB.out | apply below_alloc | apply pw_below_drewN | apply below_drew1) | exact HB.out)⟩
      · rw [if_neg c6] at H
        have c6b0 : (t139 != t137) = false := by simpa using c6
        (try (have c6b1 : decide (t139 = t137) = true := by simpa using c6))
        (try (have c6b2 : (t139 == t137) = true := by simpa using c6))
        clear c6
        obtain rfl := Option.some.inj H
        go_enter Tryd.func4, Tryd.ntmps4
        go_wp2_with (first | ((with_reducible refine gate_callee (f := 7) rfl ?_); refine goesL_ (some 12) rfl rfl Tryd.func7 (by kernel_rfl) rfl #[.string a0] rfl (by (try simp only [List.map_toArray, List.map_cons, List.map_nil]); first | done | rfl | (simp only [List.length_drop, List.length_take]; rfl)) ?_; (with_reducible refine (spec_ParseTenth.calls k a0 t136 t137 _ A3.out).mono ?_); rintro e w9 ⟨rfl, hb⟩; refine ⟨_, rfl, ?_⟩; have n0_ := Aside0.mk (below_step (by repeat (first | (with_reducible first | exact HB.out | apply below_alloc | apply pw_below_drewN | apply below_drew1) | exact HB.out)) hb); clear HB; have HB := n0_; clear n0_; (try clear hb); (try clear hb2); (try clear hk); (try clear hi)) | ((with_reducible refine gate_callee (f := 8) rfl ?_); refine goesL_ (some 17) rfl rfl Tryd.func8 (by kernel_rfl) rfl #[.string a0] rfl (by (try simp only [List.map_toArray, List.map_cons, List.map_nil]); first | done | rfl | (simp only [List.length_drop, List.length_take]; rfl)) ?_; (with_reducible refine (impl_ParseTenth.calls k a0 t138 t139 _ A4.out).mono ?_); rintro e w10 ⟨rfl, hb⟩; refine ⟨_, rfl, ?_⟩; have n0_ := Aside0.mk (below_step (by repeat (first | (with_reducible first | exact HB.out | apply below_alloc | apply pw_below_drewN | apply below_drew1) | exact HB.out)) hb); clear HB; have HB := n0_; clear n0_; (try clear hb); (try clear hb2); (try clear hk); (try clear hi)))
        go_ret
        exact ⟨by first | rfl | (simp [errW_none, errW_some] <;> rfl) | (simp [*, errW_none, errW_some] <;> rfl), by repeat (first | (with_reducible first | exact HB.out | apply below_alloc | apply pw_below_drewN | apply below_drew1) | exact HB.out)⟩
    · rw [if_neg c5] at H
      have c5b0 : (t138 == t136) = false := beq_eq_false_iff_ne.mpr c5
      have c5b1 : (t138 != t136) = true := bne_iff_ne.mpr c5
      obtain rfl := Option.some.inj H
      go_enter Tryd.func4, Tryd.ntmps4
      go_wp2_with (first | ((with_reducible refine gate_callee (f := 7) rfl ?_); refine goesL_ (some 12) rfl rfl Tryd.func7 (by kernel_rfl) rfl #[.string a0] rfl (by (try simp only [List.map_toArray, List.map_cons, List.map_nil]); first | done | rfl | (simp only [List.length_drop, List.length_take]; rfl)) ?_; (with_reducible refine (spec_ParseTenth.calls k a0 t136 t137 _ A3.out).mono ?_); rintro e w11 ⟨rfl, hb⟩; refine ⟨_, rfl, ?_⟩; have n0_ := Aside0.mk (below_step (by repeat (first | (with_reducible first | exact HB.out | apply below_alloc | apply pw_below_drewN | apply below_drew1) | exact HB.out)) hb); clear HB; have HB := n0_; clear n0_; (try clear hb); (try clear hb2); (try clear hk); (try clear hi)) | ((with_reducible refine gate_callee (f := 8) rfl ?_); refine goesL_ (some 17) rfl rfl Tryd.func8 (by kernel_rfl) rfl #[.string a0] rfl (by (try simp only [List.map_toArray, List.map_cons, List.map_nil]); first | done | rfl | (simp only [List.length_drop, List.length_take]; rfl)) ?_; (with_reducible refine (impl_ParseTenth.calls k a0 t138 t139 _ A4.out).mono ?_); rintro e w12 ⟨rfl, hb⟩; refine ⟨_, rfl, ?_⟩; have n0_ := Aside0.mk (below_step (by repeat (first | (with_reducible first | exact HB.out | apply below_alloc | apply pw_below_drewN | apply below_drew1) | exact HB.out)) hb); clear HB; have HB := n0_; clear n0_; (try clear hb); (try clear hb2); (try clear hk); (try clear hi)))
      go_ret
      exact ⟨by first | rfl | (simp [errW_none, errW_some] <;> rfl) | (simp [*, errW_none, errW_some] <;> rfl), by repeat (first | (with_reducible first | exact HB.out | apply below_alloc | apply pw_below_drewN | apply below_drew1) | exact HB.out)⟩

/-- THE ONE PURE STATEMENT of laws_FnExactParseTenth: yours. -/
def laws_FnExactParseTenth.Pure : Prop := ∀ (a0 : ByteArray), a0.size ≤ 140737488351232 → ∃ k, laws_FnExactParseTenth.f k a0 = some true
theorem laws_FnExactParseTenth.walk (P : laws_FnExactParseTenth.Pure) (a0 : ByteArray) (w : World) (w0 : a0.size ≤ 140737488351232) :
    Calls Tryd.prog 4 #[.string a0] w fun e w' => e = .returned (.bool true) ∧ Below w.heap.size w w' := by
  obtain ⟨k, h⟩ := P a0 w0
  refine (laws_FnExactParseTenth.calls k a0 true w h).mono ?_
  rintro e w' ⟨rfl, hd⟩
  exact ⟨rfl, hd⟩

end Go.Proofs.YticnpofbcblgaaaDoor.PFnExactParseTenth
