/- The program's ParseTenth returns what the reference's returns, for all arguments. No condition beyond the listed variables' data, which the card ties to the program's text. -/
import Derived.Test.YticnpofbcblgaaaDoorInvFnExactParseTenth
import Derived.Test.YticnpofbcblgaaaDoorWHelp
namespace Go.Proofs.YticnpofbcblgaaaDoor.Pure
open Go.RowKit Go.Proofs.YticnpofbcblgaaaDoorW.PrintWords Go.Proofs.YticnpofbcblgaaaDoorW.PrintLast Go.Proofs.YticnpofbcblgaaaDoorW.PrintMore Go.Proofs.YticnpofbcblgaaaDoorW.Help Go.Proofs.YticnpofbcblgaaaDoor.PFnExactParseTenth
set_option linter.unusedVariables false

theorem num_all : ∀ x : Fin 41, impl_decimal.f (x.val : Int) = spec_l1Num.f 2 (x.val : Int) ∧ (match impl_decimal.f (x.val : Int) with | some s => decide (s.size ≤ 2) | none => false) = true := by decide +kernel
theorem num (n : Int) (h0 : 0 ≤ n) (h1 : n ≤ 40) : ∃ s : ByteArray, s.size ≤ 2 ∧ impl_decimal.f n = some s ∧ Ev (fun k => spec_l1Num.f k n) s := by
  have h := num_all ⟨n.toNat, by omega⟩
  simp only [Int.toNat_of_nonneg h0] at h
  obtain ⟨e, hs⟩ := h
  cases hd : impl_decimal.f n with
  | none => rw [hd] at hs; cases hs
  | some s =>
    rw [hd] at hs e
    refine ⟨s, of_decide_eq_true hs, rfl, 2, fun k hk => ?_⟩
    induction k with
    | zero => omega
    | succ k ih =>
      rcases Nat.lt_or_ge k 2 with q | q
      · obtain rfl : k = 1 := by omega
        exact e.symm
      · exact spec_l1Num.mono n k s (ih q)
theorem sz1 (x : UInt8) : (⟨#[x]⟩ : ByteArray).size = 1 := rfl
/-- Both texts of a temperature. -/
theorem tenthBoth (t : Int) (h0 : -400 ≤ t) (h1 : t ≤ 400) : ∃ s : ByteArray, Ev (fun k => spec_l21Text.f k t) s ∧ impl_tenthText.f t = some s := by
  unfold spec_l21Text.f impl_tenthText.f impl_size.f
  have wn : wrap64 (-t) = -t := w64 (by omega) (by omega)
  rw [wn]
  by_cases c : t < 0
  · have em : mx t (-t) = -t := by unfold mx; split <;> omega
    have e1 : Int.tdiv (-t) 10 = -t / 10 := Int.tdiv_eq_ediv_of_nonneg (by omega)
    have e2 : Int.tmod (-t) 10 = -t % 10 := Int.tmod_eq_emod_of_nonneg (by omega)
    have e3 : wrap64 (-t / 10) = -t / 10 := w64 (by omega) (by omega)
    obtain ⟨a, a1, a2, a3⟩ := num (-t / 10) (by omega) (by omega)
    obtain ⟨b, b1, b2, b3⟩ := num (-t % 10) (by omega) (by omega)
    refine ⟨((⟨#[45]⟩ ++ a) ++ ⟨#[46]⟩) ++ b, Ev.pos c ?_, ?_⟩
    · rw [e1, e2, e3]
      exact Ev.bind a3 (Ev.pos (by omega) (Ev.pos (by simp only [ByteArray.size_append, sz1]; omega) (Ev.bind b3 (Ev.pos (by simp only [ByteArray.size_append, sz1]; omega) (Ev.now _)))))
    · rw [if_pos c, em]
      show ((impl_decimal.f (wrap64 (Int.tdiv (-t) 10))).bind _) = _
      rw [e1, e3, a2, Option.bind_some, if_pos (by omega), if_pos (by simp only [ByteArray.size_append, sz1]; omega), e2, b2, Option.bind_some, if_pos (by simp only [ByteArray.size_append, sz1]; omega)]
  · have em : mx t (-t) = t := by unfold mx; split <;> omega
    have e1 : Int.tdiv t 10 = t / 10 := Int.tdiv_eq_ediv_of_nonneg (by omega)
    have e2 : Int.tmod t 10 = t % 10 := Int.tmod_eq_emod_of_nonneg (by omega)
    have e3 : wrap64 (t / 10) = t / 10 := w64 (by omega) (by omega)
    obtain ⟨a, a1, a2, a3⟩ := num (t / 10) (by omega) (by omega)
    obtain ⟨b, b1, b2, b3⟩ := num (t % 10) (by omega) (by omega)
    have sz0 : (⟨#[]⟩ : ByteArray).size = 0 := rfl
    refine ⟨((⟨#[]⟩ ++ a) ++ ⟨#[46]⟩) ++ b, Ev.neg c ?_, ?_⟩
    · rw [e1, e2, e3]
      exact Ev.bind a3 (Ev.pos (by omega) (Ev.pos (by simp only [ByteArray.size_append, sz0]; omega) (Ev.bind b3 (Ev.pos (by simp only [ByteArray.size_append, sz1, sz0]; omega) (Ev.now _)))))
    · rw [if_neg c, em]
      show ((impl_decimal.f (wrap64 (Int.tdiv t 10))).bind _) = _
      rw [e1, e3, a2, Option.bind_some, if_pos (by omega), if_pos (by simp only [ByteArray.size_append, sz0]; omega), e2, b2, Option.bind_some, if_pos (by simp only [ByteArray.size_append, sz1, sz0]; omega)]

theorem parseLoop (x : ByteArray) : ∀ d : Nat, ∀ t : Int, -400 ≤ t → t + d = 401 → ∃ r : Int × Bool, Ev (fun k => spec_ParseTenth.l0 k x t) r ∧ Ev (fun k => impl_ParseTenth.l0 k x t) r := by
  intro d
  induction d with
  | zero =>
    intro t h0 h1
    exact ⟨(0, false), Ev.step (fun k => spec_ParseTenth.l0.eq_2 ..) (Ev.neg (by omega) (Ev.now _)), Ev.step (fun k => impl_ParseTenth.l0.eq_2 ..) (Ev.neg (by omega) (Ev.now _))⟩
  | succ d ih =>
    intro t h0 h1
    obtain ⟨s, s1, s2⟩ := tenthBoth t h0 (by omega)
    have w1 : wrap64 (t + 1) = t + 1 := w64 (by omega) (by omega)
    by_cases c : s.toList = x.toList
    · exact ⟨(t, true), Ev.step (fun k => spec_ParseTenth.l0.eq_2 ..) (Ev.pos (by omega) (Ev.bind s1 (Ev.pos c (Ev.now _)))), Ev.step (fun k => impl_ParseTenth.l0.eq_2 ..) (Ev.pos (by omega) (Ev.const s2 (Ev.pos c (Ev.now _))))⟩
    · obtain ⟨r, r1, r2⟩ := ih (t + 1) (by omega) (by omega)
      rw [← w1] at r1 r2
      exact ⟨r, Ev.step (fun k => spec_ParseTenth.l0.eq_2 ..) (Ev.pos (by omega) (Ev.bind s1 (Ev.neg c r1))), Ev.step (fun k => impl_ParseTenth.l0.eq_2 ..) (Ev.pos (by omega) (Ev.const s2 (Ev.neg c r2)))⟩
theorem FnExactParseTenth : ∀ (a0 : ByteArray), a0.size ≤ 9223372036854775807 → ∃ k, laws_FnExactParseTenth.f k a0 = some true := by
  intro a0 _
  refine Ev.rounds ?_
  unfold laws_FnExactParseTenth.f spec_ParseTenth.f impl_ParseTenth.f
  refine Ev.ite (fun _ => Ev.now _) (fun _ => ?_)
  obtain ⟨r, r1, r2⟩ := parseLoop a0 801 (-400) (by omega) (by omega)
  exact Ev.bind r1 (Ev.bind r2 (Ev.pos rfl (Ev.neg (by simp) (Ev.now _))))
end Go.Proofs.YticnpofbcblgaaaDoor.Pure
