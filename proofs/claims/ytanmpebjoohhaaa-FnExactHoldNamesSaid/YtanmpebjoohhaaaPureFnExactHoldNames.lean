/- The program's HoldNames returns what the reference's returns, for all arguments. No condition. -/
import Derived.Test.YtanmpebjoohhaaaInvFnExactHoldNames
import Derived.Test.YtanmpebjoohhaaaWHelp
namespace Go.Proofs.Ytanmpebjoohhaaa.Pure
open Go.RowKit Go.Proofs.YtanmpebjoohhaaaW.PrintWords Go.Proofs.YtanmpebjoohhaaaW.PrintLast Go.Proofs.YtanmpebjoohhaaaW.PrintMore Go.Proofs.YtanmpebjoohhaaaW.Help Go.Proofs.Ytanmpebjoohhaaa.PFnExactHoldNames
set_option linter.unusedVariables false

theorem l1In_eq (a b c : Int) : spec_l1In.f a b c = some (decide (b ≤ a ∧ a ≤ c)) := by
  unfold spec_l1In.f
  by_cases h : b ≤ a <;> simp [h]

theorem within_eq (a b c : Int) : impl_within.f a b c = some (decide (b ≤ a ∧ a ≤ c)) := by
  unfold impl_within.f
  by_cases h : b ≤ a <;> simp [h]

theorem holdNames_all : ∀ x : Fin 16, laws_FnExactHoldNames.f 10 (x.val : Int) = some true := by decide +kernel
theorem FnExactHoldNames : ∀ (a0 : Int), (Lit.int .i64 a0).wf = true → ∃ k, laws_FnExactHoldNames.f k a0 = some true := by
  intro a0 _
  by_cases c : 0 ≤ a0 ∧ a0 ≤ 15
  · have h := holdNames_all ⟨a0.toNat, by omega⟩
    simp only [Int.toNat_of_nonneg c.1] at h
    exact ⟨10, h⟩
  · refine Ev.rounds ?_
    unfold laws_FnExactHoldNames.f spec_HoldNames.f impl_HoldNames.f
    exact Ev.bind (a := ((⟨#[]⟩ : ByteArray), false)) (Ev.const (l1In_eq _ _ _) (Ev.neg (fun h => c (of_decide_eq_true h)) (Ev.now _))) (Ev.bind (a := ((⟨#[]⟩ : ByteArray), false)) (Ev.const (within_eq _ _ _) (Ev.neg (fun h => c (of_decide_eq_true h)) (Ev.now _))) (Ev.pos rfl (Ev.neg (show ¬ ((false != false) = true) by decide) (Ev.now _))))
end Go.Proofs.Ytanmpebjoohhaaa.Pure
