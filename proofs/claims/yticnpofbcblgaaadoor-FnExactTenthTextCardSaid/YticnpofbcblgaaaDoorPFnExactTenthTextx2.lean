-- Written by a program of this session, over the kit's print (wip/xprint.py)
import Derived.Test.YticnpofbcblgaaaDoorPFnExactTenthTextx0
import Derived.Test.YticnpofbcblgaaaDoorPFnExactTenthTextx1
namespace Go.Proofs.YticnpofbcblgaaaDoor.PFnExactTenthText
open Go.RowKit Go.Proofs.YticnpofbcblgaaaDoorW.PrintWords Go.Proofs.YticnpofbcblgaaaDoorW.PrintLast Go.Proofs.YticnpofbcblgaaaDoorW.PrintMore
attribute [local go_sem] max2_int min2_int max_two min_two max_three min_three max_four min_four   -- for this text's walks alone
set_option linter.unusedVariables false
set_option linter.unusedSimpArgs false

/-! ### impl_tenthText: function 12 -/
def impl_tenthText.f (a0 : Int) : Option (ByteArray) := if a0 < 0 then ((impl_size.f a0).bind fun t130 => ((impl_decimal.f (wrap64 (Int.tdiv t130 10))).bind fun t131 => (if 1 + t131.size ≤ 9223372036854775807 then (if ((⟨#[45]⟩ : ByteArray) ++ t131).size + 1 ≤ 9223372036854775807 then ((impl_decimal.f (Int.tmod t130 10)).bind fun t132 => (if (((⟨#[45]⟩ : ByteArray) ++ t131) ++ (⟨#[46]⟩ : ByteArray)).size + t132.size ≤ 9223372036854775807 then (some ((((⟨#[45]⟩ : ByteArray) ++ t131) ++ (⟨#[46]⟩ : ByteArray)) ++ t132)) else (none))) else (none)) else (none)))) else ((impl_size.f a0).bind fun t133 => ((impl_decimal.f (wrap64 (Int.tdiv t133 10))).bind fun t134 => (if 0 + t134.size ≤ 9223372036854775807 then (if ((⟨#[]⟩ : ByteArray) ++ t134).size + 1 ≤ 9223372036854775807 then ((impl_decimal.f (Int.tmod t133 10)).bind fun t135 => (if (((⟨#[]⟩ : ByteArray) ++ t134) ++ (⟨#[46]⟩ : ByteArray)).size + t135.size ≤ 9223372036854775807 then (some ((((⟨#[]⟩ : ByteArray) ++ t134) ++ (⟨#[46]⟩ : ByteArray)) ++ t135)) else (none))) else (none)) else (none))))
set_option maxHeartbeats 8000000 in
set_option maxRecDepth 100000 in
theorem impl_tenthText.calls (a0 : Int) (r : ByteArray) (w : World) (h : impl_tenthText.f a0 = some r) :
    Calls Tryd.prog 12 #[.int .i64 a0] w fun e w' => e = .returned (.string r) ∧ Below w.heap.size w w' := by
  have HB := Aside0.mk (Below.refl w.heap.size w)
  have H : (if a0 < 0 then ((impl_size.f a0).bind fun t130 => ((impl_decimal.f (wrap64 (Int.tdiv t130 10))).bind fun t131 => (if 1 + t131.size ≤ 9223372036854775807 then (if ((⟨#[45]⟩ : ByteArray) ++ t131).size + 1 ≤ 9223372036854775807 then ((impl_decimal.f (Int.tmod t130 10)).bind fun t132 => (if (((⟨#[45]⟩ : ByteArray) ++ t131) ++ (⟨#[46]⟩ : ByteArray)).size + t132.size ≤ 9223372036854775807 then (some ((((⟨#[45]⟩ : ByteArray) ++ t131) ++ (⟨#[46]⟩ : ByteArray)) ++ t132)) else (none))) else (none)) else (none)))) else ((impl_size.f a0).bind fun t133 => ((impl_decimal.f (wrap64 (Int.tdiv t133 10))).bind fun t134 => (if 0 + t134.size ≤ 9223372036854775807 then (if ((⟨#[]⟩ : ByteArray) ++ t134).size + 1 ≤ 9223372036854775807 then ((impl_decimal.f (Int.tmod t133 10)).bind fun t135 => (if (((⟨#[]⟩ : ByteArray) ++ t134) ++ (⟨#[46]⟩ : ByteArray)).size + t135.size ≤ 9223372036854775807 then (some ((((⟨#[]⟩ : ByteArray) ++ t134) ++ (⟨#[46]⟩ : ByteArray)) ++ t135)) else (none))) else (none)) else (none))))) = some r := h
  clear h
  by_cases c2 : a0 < 0
  · rw [if_pos c2] at H
    have c2b0 : decide (a0 < 0) = true := decide_eq_true c2
    clear c2
    replace H := Option.bind_eq_some_iff.mp H
    obtain ⟨t130, A30, H⟩ := H
    replace H : ((impl_decimal.f (wrap64 (Int.tdiv t130 10))).bind fun t131 => (if 1 + t131.size ≤ 9223372036854775807 then (if ((⟨#[45]⟩ : ByteArray) ++ t131).size + 1 ≤ 9223372036854775807 then ((impl_decimal.f (Int.tmod t130 10)).bind fun t132 => (if (((⟨#[45]⟩ : ByteArray) ++ t131) ++ (⟨#[46]⟩ : ByteArray)).size + t132.size ≤ 9223372036854775807 then (some ((((⟨#[45]⟩ : ByteArray) ++ t131) ++ (⟨#[46]⟩ : ByteArray)) ++ t132)) else (none))) else (none)) else (none))) = some r := H
    have A3 := Aside0.mk A30
    clear A30
    replace H := Option.bind_eq_some_iff.mp H
    obtain ⟨t131, A40, H⟩ := H
    replace H : (if 1 + t131.size ≤ 9223372036854775807 then (if ((⟨#[45]⟩ : ByteArray) ++ t131).size + 1 ≤ 9223372036854775807 then ((impl_decimal.f (Int.tmod t130 10)).bind fun t132 => (if (((⟨#[45]⟩ : ByteArray) ++ t131) ++ (⟨#[46]⟩ : ByteArray)).size + t132.size ≤ 9223372036854775807 then (some ((((⟨#[45]⟩ : ByteArray) ++ t131) ++ (⟨#[46]⟩ : ByteArray)) ++ t132)) else (none))) else (none)) else (none)) = some r := H
    have A4 := Aside0.mk A40
    clear A40
    by_cases c5 : 1 + t131.size ≤ 9223372036854775807
    · rw [if_pos c5] at H
      have c5b0 := eq_true c5
      have c5b1 : decide (1 + t131.size ≤ 9223372036854775807) = true := decide_eq_true c5
      try have c5b2 : (9223372036854775807 < 1 + t131.size) = False := eq_false (Nat.not_lt.2 c5)
      by_cases c6 : ((⟨#[45]⟩ : ByteArray) ++ t131).size + 1 ≤ 9223372036854775807
      · rw [if_pos c6] at H
        have c6b0 := eq_true c6
        have c6b1 : decide (((⟨#[45]⟩ : ByteArray) ++ t131).size + 1 ≤ 9223372036854775807) = true := decide_eq_true c6
        try have c6b2 : (9223372036854775807 < ((⟨#[45]⟩ : ByteArray) ++ t131).size + 1) = False := eq_false (Nat.not_lt.2 c6)
        try have c6b4 : (9223372036854775807 < 1 + t131.size + 1) = False := by have h_ := c6; simp only [ByteArray.size_append, show (⟨#[45]⟩ : ByteArray).size = 1 from rfl] at h_; exact eq_false (by omega)
        replace H := Option.bind_eq_some_iff.mp H
        obtain ⟨t132, A70, H⟩ := H
        replace H : (if (((⟨#[45]⟩ : ByteArray) ++ t131) ++ (⟨#[46]⟩ : ByteArray)).size + t132.size ≤ 9223372036854775807 then (some ((((⟨#[45]⟩ : ByteArray) ++ t131) ++ (⟨#[46]⟩ : ByteArray)) ++ t132)) else (none)) = some r := H
        have A7 := Aside0.mk A70
        clear A70
        by_cases c8 : (((⟨#[45]⟩ : ByteArray) ++ t131) ++ (⟨#[46]⟩ : ByteArray)).size + t132.size ≤ 9223372036854775807
        · rw [if_pos c8] at H
          have c8b0 := eq_true c8
          have c8b1 : decide ((((⟨#[45]⟩ : ByteArray) ++ t131) ++ (⟨#[46]⟩ : ByteArray)).size + t132.size ≤ 9223372036854775807) = true := decide_eq_true c8
          try have c8b2 : (9223372036854775807 < (((⟨#[45]⟩ : ByteArray) ++ t131) ++ (⟨#[46]⟩ : ByteArray)).size + t132.size) = False := eq_false (Nat.not_lt.2 c8)
          try have c8b4 : (9223372036854775807 < 1 + t131.size + 1 + t132.size) = False := by have h_ := c8; simp only [ByteArray.size_append, show (⟨#[45]⟩ : ByteArray).size = 1 from rfl, show (⟨#[46]⟩ : ByteArray).size = 1 from rfl] at h_; exact eq_false (by omega)
          obtain rfl := Option.some.inj H
          go_enter Tryd.func12, Tryd.ntmps12
          go_wp2_with (first | ((with_reducible refine gate_callee (f := 14) rfl ?_); refine goesL_ (some 8) rfl rfl Tryd.func14 (by kernel_rfl) rfl #[.int .i64 a0] rfl (by (try simp only [List.map_toArray, List.map_cons, List.map_nil]); first | done | rfl | (simp only [List.length_drop, List.length_take]; rfl)) ?_; (with_reducible refine (impl_size.calls a0 t130 _ A3.out).mono ?_); rintro e w9 ⟨rfl, hb⟩; refine ⟨_, rfl, ?_⟩; have n0_ := Aside0.mk (below_step (by repeat (first | (with_reducible first | exact HB.out | apply below_alloc | apply pw_below_drewN | apply below_drew1) | exact HB.out)) hb); clear HB; have HB := n0_; clear n0_; (try clear hb); (try clear hb2); (try clear hk); (try clear hi)) | ((with_reducible refine gate_callee (f := 15) rfl ?_); refine goesL_ (some 12) rfl rfl Tryd.func15 (by kernel_rfl) rfl #[.int .i64 (wrap64 (Int.tdiv t130 10))] rfl (by (try simp only [List.map_toArray, List.map_cons, List.map_nil]); first | done | rfl | (simp only [List.length_drop, List.length_take]; rfl)) ?_; (with_reducible refine (impl_decimal.calls (wrap64 (Int.tdiv t130 10)) t131 _ A4.out).mono ?_); rintro e w' ⟨rfl, ⟨nd, rfl⟩⟩; refine ⟨_, rfl, ?_⟩) | ((with_reducible refine gate_callee (f := 15) rfl ?_); refine goesL_ (some 17) rfl rfl Tryd.func15 (by kernel_rfl) rfl #[.int .i64 (Int.tmod t130 10)] rfl (by (try simp only [List.map_toArray, List.map_cons, List.map_nil]); first | done | rfl | (simp only [List.length_drop, List.length_take]; rfl)) ?_; (with_reducible refine (impl_decimal.calls (Int.tmod t130 10) t132 _ A7.out).mono ?_); rintro e w' ⟨rfl, ⟨nd, rfl⟩⟩; refine ⟨_, rfl, ?_⟩))
          go_ret
          exact ⟨by first | rfl | (simp [errW_none, errW_some] <;> rfl) | (simp [*, errW_none, errW_some] <;> rfl), by repeat (first | (with_reducible first | exact HB.out | apply below_alloc | apply pw_below_drewN | apply below_drew1) | exact HB.out)⟩
        · rw [if_neg c8] at H
          exact absurd H (by simp)
      · rw [if_neg c6] at H
        exact absurd H (by simp)
    · rw [if_neg c5] at H
      exact absurd H (by simp)
  · rw [if_neg c2] at H
    have c2b0 : decide (a0 < 0) = false := decide_eq_false c2
    clear c2
    replace H := Option.bind_eq_some_iff.mp H
    obtain ⟨t133, A100, H⟩ := H
    replace H : ((impl_decimal.f (wrap64 (Int.tdiv t133 10))).bind fun t134 => (if 0 + t134.size ≤ 9223372036854775807 then (if ((⟨#[]⟩ : ByteArray) ++ t134).size + 1 ≤ 9223372036854775807 then ((impl_decimal.f (Int.tmod t133 10)).bind fun t135 => (if (((⟨#[]⟩ : ByteArray) ++ t134) ++ (⟨#[46]⟩ : ByteArray)).size + t135.size ≤ 9223372036854775807 then (some ((((⟨#[]⟩ : ByteArray) ++ t134) ++ (⟨#[46]⟩ : ByteArray)) ++ t135)) else (none))) else (none)) else (none))) = some r := H
    have A10 := Aside0.mk A100
    clear A100
    replace H := Option.bind_eq_some_iff.mp H
    obtain ⟨t134, A110, H⟩ := H
    replace H : (if 0 + t134.size ≤ 9223372036854775807 then (if ((⟨#[]⟩ : ByteArray) ++ t134).size + 1 ≤ 9223372036854775807 then ((impl_decimal.f (Int.tmod t133 10)).bind fun t135 => (if (((⟨#[]⟩ : ByteArray) ++ t134) ++ (⟨#[46]⟩ : ByteArray)).size + t135.size ≤ 9223372036854775807 then (some ((((⟨#[]⟩ : ByteArray) ++ t134) ++ (⟨#[46]⟩ : ByteArray)) ++ t135)) else (none))) else (none)) else (none)) = some r := H
    have A11 := Aside0.mk A110
    clear A110
    by_cases c12 : 0 + t134.size ≤ 9223372036854775807
    · rw [if_pos c12] at H
      have c12b0 := eq_true c12
      have c12b1 : decide (0 + t134.size ≤ 9223372036854775807) = true := decide_eq_true c12
      try have c12b2 : (9223372036854775807 < 0 + t134.size) = False := eq_false (Nat.not_lt.2 c12)
      by_cases c13 : ((⟨#[]⟩ : ByteArray) ++ t134).size + 1 ≤ 9223372036854775807
      · rw [if_pos c13] at H
        have c13b0 := eq_true c13
        have c13b1 : decide (((⟨#[]⟩ : ByteArray) ++ t134).size + 1 ≤ 9223372036854775807) = true := decide_eq_true c13
        try have c13b2 : (9223372036854775807 < ((⟨#[]⟩ : ByteArray) ++ t134).size + 1) = False := eq_false (Nat.not_lt.2 c13)
        try have c13b4 : (9223372036854775807 < t134.size + 1) = False := by have h_ := c13; simp only [ByteArray.size_append, show (⟨#[]⟩ : ByteArray).size = 0 from rfl] at h_; exact eq_false (by omega)
        replace H := Option.bind_eq_some_iff.mp H
        obtain ⟨t135, A140, H⟩ := H
        replace H : (if (((⟨#[]⟩ : ByteArray) ++ t134) ++ (⟨#[46]⟩ : ByteArray)).size + t135.size ≤ 9223372036854775807 then (some ((((⟨#[]⟩ : ByteArray) ++ t134) ++ (⟨#[46]⟩ : ByteArray)) ++ t135)) else (none)) = some r := H
        have A14 := Aside0.mk A140
        clear A140
        by_cases c15 : (((⟨#[]⟩ : ByteArray) ++ t134) ++ (⟨#[46]⟩ : ByteArray)).size + t135.size ≤ 9223372036854775807
        · rw [if_pos c15] at H
          have c15b0 := eq_true c15
          have c15b1 : decide ((((⟨#[]⟩ : ByteArray) ++ t134) ++ (⟨#[46]⟩ : ByteArray)).size + t135.size ≤ 9223372036854775807) = true := decide_eq_true c15
          try have c15b2 : (9223372036854775807 < (((⟨#[]⟩ : ByteArray) ++ t134) ++ (⟨#[46]⟩ : ByteArray)).size + t135.size) = False := eq_false (Nat.not_lt.2 c15)
          try have c15b4 : (9223372036854775807 < t134.size + 1 + t135.size) = False := by have h_ := c15; simp only [ByteArray.size_append, show (⟨#[46]⟩ : ByteArray).size = 1 from rfl, show (⟨#[]⟩ : ByteArray).size = 0 from rfl] at h_; exact eq_false (by omega)
          obtain rfl := Option.some.inj H
          go_enter Tryd.func12, Tryd.ntmps12
          go_wp2_with (first | ((with_reducible refine gate_callee (f := 14) rfl ?_); refine goesL_ (some 8) rfl rfl Tryd.func14 (by kernel_rfl) rfl #[.int .i64 a0] rfl (by (try simp only [List.map_toArray, List.map_cons, List.map_nil]); first | done | rfl | (simp only [List.length_drop, List.length_take]; rfl)) ?_; (with_reducible refine (impl_size.calls a0 t133 _ A10.out).mono ?_); rintro e w16 ⟨rfl, hb⟩; refine ⟨_, rfl, ?_⟩; have n0_ := Aside0.mk (below_step (by repeat (first | (with_reducible first | exact HB.out | apply below_alloc | apply pw_below_drewN | apply below_drew1) | exact HB.out)) hb); clear HB; have HB := n0_; clear n0_; (try clear hb); (try clear hb2); (try clear hk); (try clear hi)) | ((with_reducible refine gate_callee (f := 15) rfl ?_); refine goesL_ (some 12) rfl rfl Tryd.func15 (by kernel_rfl) rfl #[.int .i64 (wrap64 (Int.tdiv t133 10))] rfl (by (try simp only [List.map_toArray, List.map_cons, List.map_nil]); first | done | rfl | (simp only [List.length_drop, List.length_take]; rfl)) ?_; (with_reducible refine (impl_decimal.calls (wrap64 (Int.tdiv t133 10)) t134 _ A11.out).mono ?_); rintro e w' ⟨rfl, ⟨nd, rfl⟩⟩; refine ⟨_, rfl, ?_⟩) | ((with_reducible refine gate_callee (f := 15) rfl ?_); refine goesL_ (some 17) rfl rfl Tryd.func15 (by kernel_rfl) rfl #[.int .i64 (Int.tmod t133 10)] rfl (by (try simp only [List.map_toArray, List.map_cons, List.map_nil]); first | done | rfl | (simp only [List.length_drop, List.length_take]; rfl)) ?_; (with_reducible refine (impl_decimal.calls (Int.tmod t133 10) t135 _ A14.out).mono ?_); rintro e w' ⟨rfl, ⟨nd, rfl⟩⟩; refine ⟨_, rfl, ?_⟩))
          go_ret
          exact ⟨by first | rfl | (simp [errW_none, errW_some] <;> rfl) | (simp [*, errW_none, errW_some] <;> rfl), by repeat (first | (with_reducible first | exact HB.out | apply below_alloc | apply pw_below_drewN | apply below_drew1) | exact HB.out)⟩
        · rw [if_neg c15] at H
          exact absurd H (by simp)
      · rw [if_neg c13] at H
        exact absurd H (by simp)
    · rw [if_neg c12] at H
      exact absurd H (by simp)

/-! ### impl_TenthText: function 6 -/
def impl_TenthText.f (a0 : Int) : Option (ByteArray × Bool) := (impl_within.f a0 (-400) 400).bind fun t136 => (if t136 = true then ((impl_tenthText.f a0).bind fun t137 => (some (t137, true))) else (some ((⟨#[]⟩ : ByteArray), false)))
set_option maxHeartbeats 8000000 in
set_option maxRecDepth 100000 in
theorem impl_TenthText.calls (a0 : Int) (r1 : ByteArray) (r2 : Bool) (w : World) (h : impl_TenthText.f a0 = some (r1, r2)) :
    Calls Tryd.prog 6 #[.int .i64 a0] w fun e w' => e = .returned (.tuple #[.string r1, .bool r2]) ∧ Below w.heap.size w w' := by
  have HB := Aside0.mk (Below.refl w.heap.size w)
  have H : ((impl_within.f a0 (-400) 400).bind fun t136 => (if t136 = true then ((impl_tenthText.f a0).bind fun t137 => (some (t137, true))) else (some ((⟨#[]⟩ : ByteArray), false)))) = some (r1, r2) := h
  clear h
  replace H := Option.bind_eq_some_iff.mp H
  obtain ⟨t136, A20, H⟩ := H
  replace H : (if t136 = true then ((impl_tenthText.f a0).bind fun t137 => (some (t137, true))) else (some ((⟨#[]⟩ : ByteArray), false))) = some (r1, r2) := H
  have A2 := Aside0.mk A20
  clear A20
  by_cases c3 : t136 = true
  · subst c3
    have H1 : ((impl_tenthText.f a0).bind fun t137 => (some (t137, true))) = some (r1, r2) := by rw [if_pos rfl] at H; exact H
    clear H
    have H := H1
    clear H1
    replace H := Option.bind_eq_some_iff.mp H
    obtain ⟨t137, A40, H⟩ := H
    replace H : (some (t137, true)) = some (r1, r2) := H
    have A4 := Aside0.mk A40
    clear A40
    simp only [Option.some.injEq, Prod.mk.injEq] at H
    obtain ⟨rfl, rfl⟩ := H
    go_enter Tryd.func6, Tryd.ntmps6
    go_wp2_with (first | ((with_reducible refine gate_callee (f := 11) rfl ?_); refine goesL_ (some 5) rfl rfl Tryd.func11 (by kernel_rfl) rfl #[.int .i64 a0, .int .i64 (-400), .int .i64 400] rfl (by (try simp only [List.map_toArray, List.map_cons, List.map_nil]); first | done | rfl | (simp only [List.length_drop, List.length_take]; rfl)) ?_; (with_reducible refine (impl_within.calls a0 (-400) 400 true _ A2.out).mono ?_); rintro e w' ⟨rfl, ⟨nd, rfl⟩⟩; refine ⟨_, rfl, ?_⟩) | ((with_reducible refine gate_callee (f := 12) rfl ?_); refine goesL_ (some 8) rfl rfl Tryd.func12 (by kernel_rfl) rfl #[.int .i64 a0] rfl (by (try simp only [List.map_toArray, List.map_cons, List.map_nil]); first | done | rfl | (simp only [List.length_drop, List.length_take]; rfl)) ?_; (with_reducible refine (impl_tenthText.calls a0 t137 _ A4.out).mono ?_); rintro e w5 ⟨rfl, hb⟩; refine ⟨_, rfl, ?_⟩; have n0_ := Aside0.mk (below_step (by repeat (first | (with_reducible first | exact HB.out | apply below_alloc | apply pw_below_drewN | apply below_drew1) | exact HB.out)) hb); clear HB; have HB := n0_; clear n0_; (try clear hb); (try clear hb2); (try clear hk); (try clear hi)))
    go_ret2
    exact ⟨by first | rfl | (simp [errW_none, errW_some] <;> rfl) | (simp [*, errW_none, errW_some] <;> rfl), by repeat (first | (with_reducible first | exact HB.out | apply below_alloc | apply pw_below_drewN | apply below_drew1) | exact HB.out)⟩
  · replace c3 := Bool.eq_false_iff.mpr c3
    subst c3
    have H1 : (some ((⟨#[]⟩ : ByteArray), false)) = some (r1, r2) := by rw [if_neg (show ¬ (false = true) by decide)] at H; exact H
    clear H
    have H := H1
    clear H1
    simp only [Option.some.injEq, Prod.mk.injEq] at H
    obtain ⟨rfl, rfl⟩ := H
    go_enter Tryd.func6, Tryd.ntmps6
    go_wp2_with (first | ((with_reducible refine gate_callee (f := 11) rfl ?_); refine goesL_ (some 5) rfl rfl Tryd.func11 (by kernel_rfl) rfl #[.int .i64 a0, .int .i64 (-400), .int .i64 400] rfl (by (try simp only [List.map_toArray, List.map_cons, List.map_nil]); first | done | rfl | (simp only [List.length_drop, List.length_take]; rfl)) ?_; (with_reducible refine (impl_within.calls a0 (-400) 400 false _ A2.out).mono ?_); rintro e w' ⟨rfl, ⟨nd, rfl⟩⟩; refine ⟨_, rfl, ?_⟩))
    go_ret2
    exact ⟨by first | rfl | (simp [errW_none, errW_some] <;> rfl) | (simp [*, errW_none, errW_some] <;> rfl), by repeat (first | (with_reducible first | exact HB.out | apply below_alloc | apply pw_below_drewN | apply below_drew1) | exact HB.out)⟩

/-! ### laws_FnExactTenthText: function 3 -/
def laws_FnExactTenthText.f (k : Nat) (a0 : Int) : Option (Bool) := (spec_TenthText.f k a0).bind fun bt138 => ((impl_TenthText.f a0).bind fun bt140 => (if bt140.1.toList = bt138.1.toList then (if (bt140.2 != bt138.2) = true then (some false) else (some true)) else (some false)))
theorem laws_FnExactTenthText.mono : ∀ a0 k, LeO (laws_FnExactTenthText.f k a0) (laws_FnExactTenthText.f (k + 1) a0) := by
  intro a0 k
  unfold laws_FnExactTenthText.f
  repeat' first
      | (with_reducible exact spec_TenthText.mono _ _)
      | (with_reducible exact LeO.refl _)
      | (with_reducible exact LeO.none _)
      | (with_reducible refine LeO.ite ?_ ?_)
      | (with_reducible refine LeO.bind ?_ (fun _ => ?_))
      | exact spec_TenthText.mono _ _
      | exact LeO.none _
      | refine LeO.ite ?_ ?_
      | refine LeO.bind ?_ (fun _ => ?_)
set_option maxHeartbeats 8000000 in
set_option maxRecDepth 100000 in
theorem laws_FnExactTenthText.calls (k : Nat) (a0 : Int) (r : Bool) (w : World) (h : laws_FnExactTenthText.f k a0 = some r) :
    Calls Tryd.prog 3 #[.int .i64 a0] w fun e w' => e = .returned (.bool r) ∧ Below w.heap.size w w' := by
  have HB := Aside0.mk (Below.refl w.heap.size w)
  have H : ((spec_TenthText.f k a0).bind fun bt138 => ((impl_TenthText.f a0).bind fun bt140 => (if bt140.1.toList = bt138.1.toList then (if (bt140.2 != bt138.2) = true then (some false) else (some true)) else (some false)))) = some r := h
  clear h
  replace H := Option.bind_eq_some_iff.mp H
  obtain ⟨⟨t138, t139⟩, A20, H⟩ := H
  replace H : ((impl_TenthText.f a0).bind fun bt140 => (if bt140.1.toList = t138.toList then (if (bt140.2 != t139) = true then (some false) else (some true)) else (some false))) = some r := H
  have A2 := Aside0.mk A20
  clear A20
  replace H := Option.bind_eq_some_iff.mp H
  obtain ⟨⟨t140, t141⟩, A30, H⟩ := H
  replace H : (if t140.toList = t138.toList then (if (t141 != t139) = true then (some false) else (some true)) else (some false)) = some r := H
  have A3 := Aside0.mk A30
  clear A30
  by_cases c4 : t140.toList = t138.toList
  · rw [if_pos c4] at H
    have c4b0 : (t140.toList == t138.toList) = true := beq_iff_eq.mpr c4
    have c4b1 : (t140.toList != t138.toList) = false := bne_eq_false_iff_eq.mpr c4
    clear c4
    by_cases c5 : (t141 != t139) = true
    · rw [if_pos c5] at H
      have c5b0 : (t141 != t139) = true := c5
      (try (have c5b1 : decide (t141 = t139) = false := by simpa using c5))
      (try (have c5b2 : (t141 == t139) = false := by simpa using c5))
      (try (have c5b3 : ¬ (t141 = t139) := by simpa using c5))
      clear c5
      obtain rfl := Option.some.inj H
      go_enter Tryd.func3, Tryd.ntmps3
      go_wp2_with (first | ((with_reducible refine gate_callee (f := 5) rfl ?_); refine goesL_ (some 9) rfl rfl Tryd.func5 (by kernel_rfl) rfl #[.int .i64 a0] rfl (by (try simp only [List.map_toArray, List.map_cons, List.map_nil]); first | done | rfl | (simp only [List.length_drop, List.length_take]; rfl)) ?_; (with_reducible refine (spec_TenthText.calls k a0 t138 t139 _ A2.out).mono ?_); rintro e w6 ⟨rfl, hb⟩; refine ⟨_, rfl, ?_⟩; have n0_ := Aside0.mk (below_step (by repeat (first | (with_reducible first | exact HB.out | apply below_alloc | apply pw_below_drewN | apply below_drew1) | exact HB.out)) hb); clear HB; have HB := n0_; clear n0_; (try clear hb); (try clear hb2); (try clear hk); (try clear hi)) | ((with_reducible refine gate_callee (f := 6) rfl ?_); refine goesL_ (some 14) rfl rfl Tryd.func6 (by kernel_rfl) rfl #[.int .i64 a0] rfl (by (try simp only [List.map_toArray, List.map_cons, List.map_nil]); first | done | rfl | (simp only [List.length_drop, List.length_take]; rfl)) ?_; (with_reducible refine (impl_TenthText.calls a0 t140 t141 _ A3.out).mono ?_); rintro e w7 ⟨rfl, hb⟩; refine ⟨_, rfl, ?_⟩; have n0_ := Aside0.mk (below_step (by repeat (first | (with_reducible first | exact HB.out | apply below_alloc | apply pw_below_drewN | apply below_drew1) | exact HB.out)) hb); clear HB; have HB := n0_; clear n0_; (try clear hb); (try clear hb2); (try clear hk); (try clear hi)))
      go_ret
      exact ⟨by first | rfl | (simp [errW_none, errW_some] <;> rfl) | (simp [*, errW_none, errW_some] <;> rfl), by repeat (first | (with_reducible first | exact HB.out | apply below_alloc | apply pw_below_drewN | apply below_drew1) | exact HB.out)⟩
    · rw [if_neg c5] at H
      have c5b0 : (t141 != t139) = false := by simpa using c5
      (try (have c5b1 : decide (t141 = t139) = true := by simpa using c5))
      (try (have c5b2 : (t141 == t139) = true := by simpa using c5))
      clear c5
      obtain rfl := Option.some.inj H
      go_enter Tryd.func3, Tryd.ntmps3
      go_wp2_with (first | ((with_reducible refine gate_callee (f := 5) rfl ?_); refine goesL_ (some 9) rfl rfl Tryd.func5 (by kernel_rfl) rfl #[.int .i64 a0] rfl (by (try simp only [List.map_toArray, List.map_cons, List.map_nil]); first | done | rfl | (simp only [List.length_drop, List.length_take]; rfl)) ?_; (with_reducible refine (spec_TenthText.calls k a0 t138 t139 _ A2.out).mono ?_); rintro e w8 ⟨rfl, hb⟩; refine ⟨_, rfl, ?_⟩; have n0_ := Aside0.mk (below_step (by repeat (first | (with_reducible first | exact HB.out | apply below_alloc | apply pw_below_drewN | apply below_drew1) | exact HB.out)) hb); clear HB; have HB := n0_; clear n0_; (try clear hb); (try clear hb2); (try clear hk); (try clear hi)) | ((with_reducible refine gate_callee (f := 6) rfl ?_); refine goesL_ (some 14) rfl rfl Tryd.func6 (by kernel_rfl) rfl #[.int .i64 a0] rfl (by (try simp only [List.map_toArray, List.map_cons, List.map_nil]); first | done | rfl | (simp only [List.length_drop, List.length_take]; rfl)) ?_; (with_reducible refine (impl_TenthText.calls a0 t140 t141 _ A3.out).mono ?_); rintro e w9 ⟨rfl, hb⟩; refine ⟨_, rfl, ?_⟩; have n0_ := Aside0.mk (below_step (by repeat (first | (with_reducible first | exact HB.out | apply below_alloc | apply pw_below_drewN | apply below_drew1) | exact HB.out)) hb); clear HB; have HB := n0_; clear n0_; (try clear hb); (try clear hb2); (try clear hk); (try clear hi)))
      go_ret
      exact ⟨by first | rfl | (simp [errW_none, errW_some] <;> rfl) | (simp [*, errW_none, errW_some] <;> rfl), by repeat (first | (with_reducible first | exact HB.out | apply below_alloc | apply pw_below_drewN | apply below_drew1) | exact HB.out)⟩
  · rw [if_neg c4] at H
    have c4b0 : (t140.toList == t138.toList) = false := beq_eq_false_iff_ne.mpr c4
    have c4b1 : (t140.toList != t138.toList) = true := bne_iff_ne.mpr c4
    obtain rfl := Option.some.inj H
    go_enter Tryd.func3, Tryd.ntmps3
    go_wp2_with (first | ((with_reducible refine gate_callee (f := 5) rfl ?_); refine goesL_ (some 9) rfl rfl Tryd.func5 (by kernel_rfl) rfl #[.int .i64 a0] rfl (by (try simp only [List.map_toArray, List.map_cons, List.map_nil]); first | done | rfl | (simp only [List.length_drop, List.length_take]; rfl)) ?_; (with_reducible refine (spec_TenthText.calls k a0 t138 t139 _ A2.out).mono ?_); rintro e w10 ⟨rfl, hb⟩; refine ⟨_, rfl, ?_⟩; have n0_ := Aside0.mk (below_step (by repeat (first | (with_reducible first | exact HB.out | apply below_alloc | apply pw_below_drewN | apply below_drew1) | exact HB.out)) hb); clear HB; have HB := n0_; clear n0_; (try clear hb); (try clear hb2); (try clear hk); (try clear hi)) | ((with_reducible refine gate_callee (f := 6) rfl ?_); refine goesL_ (some 14) rfl rfl Tryd.func6 (by kernel_rfl) rfl #[.int .i64 a0] rfl (by (try simp only [List.map_toArray, List.map_cons, List.map_nil]); first | done | rfl | (simp only [List.length_drop, List.length_take]; rfl)) ?_; (with_reducible refine (impl_TenthText.calls a0 t140 t141 _ A3.out).mono ?_); rintro e w11 ⟨rfl, hb⟩; refine ⟨_, rfl, ?_⟩; have n0_ := Aside0.mk (below_step (by repeat (first | (with_reducible first | exact HB.out | apply below_alloc | apply pw_below_drewN | apply below_drew1) | exact HB.out)) hb); clear HB; have HB := n0_; clear n0_; (try clear hb); (try clear hb2); (try clear hk); (try clear hi)))
    go_ret
    exact ⟨by first | rfl | (simp [errW_none, errW_some] <;> rfl) | (simp [*, errW_none, errW_some] <;> rfl), by repeat (first | (with_reducible first | exact HB.out | apply below_alloc | apply pw_below_drewN | apply below_drew1) | exact HB.out)⟩

/-- THE ONE PURE STATEMENT of laws_FnExactTenthText: yours. -/
def laws_FnExactTenthText.Pure : Prop := ∀ (a0 : Int), (Lit.int .i64 a0).wf = true → ∃ k, laws_FnExactTenthText.f k a0 = some true
theorem laws_FnExactTenthText.walk (P : laws_FnExactTenthText.Pure) (a0 : Int) (w : World) (w0 : (Lit.int .i64 a0).wf = true) :
    Calls Tryd.prog 3 #[.int .i64 a0] w fun e w' => e = .returned (.bool true) ∧ Below w.heap.size w w' := by
  obtain ⟨k, h⟩ := P a0 w0
  refine (laws_FnExactTenthText.calls k a0 true w h).mono ?_
  rintro e w' ⟨rfl, hd⟩
  exact ⟨rfl, hd⟩

end Go.Proofs.YticnpofbcblgaaaDoor.PFnExactTenthText
