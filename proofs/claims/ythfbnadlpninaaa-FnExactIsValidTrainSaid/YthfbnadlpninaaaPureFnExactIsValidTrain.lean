/- The program's IsValidTrain returns what the reference's returns, for all arguments; the argument reads as it did. No condition. -/
import Derived.Test.YthfbnadlpninaaaInvFnExactIsValidTrain
import Derived.Test.YthfbnadlpninaaaWHelp
namespace Go.Proofs.Ythfbnadlpninaaa.Pure
open Go.RowKit Go.Proofs.YthfbnadlpninaaaW.PrintWords Go.Proofs.YthfbnadlpninaaaW.PrintLast Go.Proofs.YthfbnadlpninaaaW.PrintMore Go.Proofs.YthfbnadlpninaaaW.Help Go.Proofs.Ythfbnadlpninaaa.PFnExactIsValidTrain
set_option linter.unusedVariables false

def convWagon (x : S74) : S70 := ⟨x.f0, x.f1⟩
theorem szWagonS (l : List S74) (a : Int) (h0 : 0 ≤ a) (h1 : a ≤ 1048576) (hl : l.length ≤ 9223372036854775807) :
    laws_szWagonS.f l a = some (if a < l.length then -1 else a - l.length) := by
  unfold laws_szWagonS.f
  rw [w64 (by omega) (by omega)]
  by_cases h : a < l.length
  · rw [if_pos (by omega), if_pos h]
  · rw [if_neg (by omega), if_neg h]
theorem toWagonS (l : List S74) (hl : l.length ≤ 1048576) : Ev (fun k => laws_toWagonS.f k l) (l.map convWagon) := by
  unfold laws_toWagonS.f
  refine Ev.pos (by omega) (Ev.pos (by omega) ?_)
  simp only [Int.toNat_natCast]
  refine fill_ev l convWagon z70 (fun k ys i => laws_toWagonS.l0 k l ys i) ?_ ?_
  · intro i h ys hy r hr
    refine Ev.step (fun k => laws_toWagonS.l0.eq_2 ..) ?_
    refine Ev.pos (by omega) (Ev.pos (by omega) ?_)
    refine Ev.const (a := (l[i].f0, l[i].f1)) (by simp [laws_toWagon.f, rd_T74, h]) ?_
    refine Ev.pos (by omega) ?_
    rw [w64 (by omega) (by omega)]
    exact hr
  · intro ys hy
    refine Ev.step (fun k => laws_toWagonS.l0.eq_2 ..) ?_
    exact Ev.neg (by omega) (Ev.now _)
theorem eqWagonS (l : List S70) (hl : l.length ≤ 1048577) : Ev (fun k => laws_eqWagonS.f k l l) true := by
  unfold laws_eqWagonS.f
  refine Ev.pos rfl ?_
  refine down_ev l.length (fun k i => laws_eqWagonS.l0 k l l i) ?_ ?_
  · intro i h hr
    refine Ev.step (fun k => laws_eqWagonS.l0.eq_2 ..) ?_
    refine Ev.pos (by omega) (Ev.pos (by omega) (Ev.pos (by omega) ?_))
    refine Ev.const (a := true) (by simp [laws_eqWagon.f]) ?_
    refine Ev.pos rfl ?_
    rw [w64 (by omega) (by omega)]
    exact hr
  · refine Ev.step (fun k => laws_eqWagonS.l0.eq_2 ..) ?_
    exact Ev.neg (by omega) (Ev.now _)

theorem l1In_eq (a b c : Int) : spec_l1In.f a b c = some (decide (b ≤ a ∧ a ≤ c)) := by
  unfold spec_l1In.f
  by_cases h : b ≤ a <;> simp [h]

theorem within_eq (a b c : Int) : impl_within.f a b c = some (decide (b ≤ a ∧ a ≤ c)) := by
  unfold impl_within.f
  by_cases h : b ≤ a <;> simp [h]

def wagonOk (x : S70) : Prop := (1 ≤ x.f0 ∧ x.f0 ≤ 3) ∧ (1 ≤ x.f1 ∧ x.f1 ≤ 100000)
instance (x : S70) : Decidable (wagonOk x) := by unfold wagonOk; infer_instance
def Train (ts : List S70) : Prop := (1 ≤ (ts.length : Int) ∧ (ts.length : Int) ≤ 8) ∧ ∀ j : Nat, j < ts.length → wagonOk (rd_T70 ts j)
theorem notWagon (x : S70) : impl_IsValidTrain_1.f x.f0 x.f1 = some (!decide (wagonOk x)) := by
  unfold impl_IsValidTrain_1.f wagonOk
  rw [within_eq, within_eq]
  by_cases h : 1 ≤ x.f0 ∧ x.f0 ≤ 3
  · simp only [h, Option.bind_some, true_and, and_self, decide_true, if_true]
  · simp only [h, Option.bind_some, false_and, decide_false]
    rfl
theorem trainLoop (ts : List S70) (hl : ts.length ≤ 1048577) : ∀ d i : Nat, i + d = ts.length → ∃ (b : Bool) (q : Int), Ev (fun k => spec_l19Train.l0 k ts i) (b && decide (1 ≤ (ts.length : Int) ∧ (ts.length : Int) ≤ 8)) ∧
    Ev (fun k => slices_IndexFunc_impl_Wagon.l0 k ts ts.length i) q ∧ (!decide (q ≥ 0)) = b ∧ (b = true ↔ ∀ j : Nat, i ≤ j → j < ts.length → wagonOk (rd_T70 ts j)) := by
  intro d
  induction d with
  | zero =>
    intro i hi
    exact ⟨true, -1, Ev.step (fun k => spec_l19Train.l0.eq_2 ..) (Ev.neg (by omega) (Ev.const (l1In_eq _ _ _) (Ev.eq (Ev.now _) (Bool.true_and _).symm))), Ev.step (fun k => slices_IndexFunc_impl_Wagon.l0.eq_2 ..) (Ev.neg (by omega) (Ev.now _)), rfl, ⟨fun _ j h1 h2 => absurd h2 (by omega), fun _ => rfl⟩⟩
  | succ d ih =>
    intro i hi
    have li : (i : Int) < ts.length := by omega
    have l0 : (0 : Int) ≤ i := by omega
    have w1 : wrap64 ((i : Int) + 1) = ((i + 1 : Nat) : Int) := by rw [w64 (by omega) (by omega)]; rfl
    have no := notWagon (rd_T70 ts i)
    by_cases c : wagonOk (rd_T70 ts i)
    · obtain ⟨b, q, h1, h2, h3, h4⟩ := ih (i + 1) (by omega)
      rw [← w1] at h1 h2
      refine ⟨b, q, ?_, ?_, h3, h4.trans ⟨fun h j j1 j2 => ?_, fun h j j1 j2 => h j (by omega) j2⟩⟩
      · exact Ev.step (fun k => spec_l19Train.l0.eq_2 ..) (Ev.pos li (Ev.pos l0 (Ev.const (l1In_eq _ _ _) (Ev.pos (decide_eq_true c.1) (Ev.const (l1In_eq _ _ _) (Ev.pos (decide_eq_true c.2) h1))))))
      · refine Ev.step (fun k => slices_IndexFunc_impl_Wagon.l0.eq_2 ..) (Ev.pos li (Ev.pos l0 (Ev.pos li (Ev.const no (Ev.neg ?_ h2)))))
        rw [decide_eq_true c]
        exact fun h => by cases h
      · rcases Nat.lt_or_ge i j with q | q
        · exact h j q j2
        · obtain rfl : j = i := by omega
          exact c
    · refine ⟨false, i, ?_, ?_, by simp, ⟨fun h => (by cases h), fun h => absurd (h i (Nat.le_refl _) (by omega)) c⟩⟩
      · refine Ev.step (fun k => spec_l19Train.l0.eq_2 ..) (Ev.pos li (Ev.pos l0 (Ev.const (l1In_eq _ _ _) (Ev.ite (fun h1 => Ev.const (l1In_eq _ _ _) (Ev.neg (fun h2 => c ⟨of_decide_eq_true h1, of_decide_eq_true h2⟩) (Ev.now _))) (fun _ => Ev.now _)))))
      · refine Ev.step (fun k => slices_IndexFunc_impl_Wagon.l0.eq_2 ..) (Ev.pos li (Ev.pos l0 (Ev.pos li (Ev.const no (Ev.pos ?_ (Ev.now _))))))
        rw [decide_eq_false c]
        rfl
/-- Both tests of a train. -/
theorem train (ts : List S70) (hl : ts.length ≤ 1048577) : ∃ b : Bool, Ev (fun k => spec_l19Train.f k ts) b ∧ Ev (fun k => impl_IsValidTrain.f k ts) b ∧ (b = true ↔ Train ts) := by
  obtain ⟨b, q, h1, h2, h3, h4⟩ := trainLoop ts hl ts.length 0 (by omega)
  unfold spec_l19Train.f impl_IsValidTrain.f slices_ContainsFunc_impl_Wagon.f slices_IndexFunc_impl_Wagon.f
  by_cases c : 1 ≤ (ts.length : Int) ∧ (ts.length : Int) ≤ 8
  · rw [decide_eq_true c, Bool.and_true] at h1
    exact ⟨b, h1, Ev.const (within_eq _ _ _) (Ev.pos (decide_eq_true c) (Ev.bind (Ev.bind h2 (Ev.now _)) (Ev.eq (Ev.now _) h3))), h4.trans ⟨fun h => ⟨c, fun j hj => h j (by omega) hj⟩, fun h j _ hj => h.2 j hj⟩⟩
  · rw [decide_eq_false c, Bool.and_false] at h1
    exact ⟨false, h1, Ev.const (within_eq _ _ _) (Ev.neg (fun h => c (of_decide_eq_true h)) (Ev.now _)), ⟨fun h => (by cases h), fun h => absurd h.1 c⟩⟩

theorem FnExactIsValidTrain : ∀ (l0 : (List S74)), (l0.length ≤ 9223372036854775807 ∧ ∀ x ∈ l0, inv74 x) → ∃ k, laws_FnExactIsValidTrain.f k l0 = some true := by
  intro l0 ⟨hl, _⟩
  refine Ev.rounds ?_
  unfold laws_FnExactIsValidTrain.f
  refine Ev.const (szWagonS l0 1048576 (by omega) (by omega) hl) ?_
  by_cases hz : (1048576 : Int) < l0.length
  · exact Ev.pos (by rw [if_pos hz]; omega) (Ev.now _)
  · refine Ev.neg (by rw [if_neg hz]; omega) ?_
    have hn : l0.length ≤ 1048576 := by omega
    have hm : (l0.map convWagon).length ≤ 1048577 := by simp; omega
    obtain ⟨b, h1, h2, _⟩ := train (l0.map convWagon) hm
    have tv := toWagonS l0 hn
    unfold spec_IsValidTrain.f
    exact Ev.bind tv (Ev.bind (Ev.bind h1 (Ev.now _)) (Ev.bind tv (Ev.bind h2 (Ev.neg (by simp) (Ev.bind tv (Ev.bind (eqWagonS _ hm) (Ev.pos rfl (Ev.now _))))))))
end Go.Proofs.Ythfbnadlpninaaa.Pure
