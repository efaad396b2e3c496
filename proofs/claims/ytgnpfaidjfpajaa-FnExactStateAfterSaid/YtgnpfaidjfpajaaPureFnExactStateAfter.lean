/- The program's StateAfter returns what the reference's returns, for all arguments; the argument reads as it did. No condition. -/
import Derived.Test.YtgnpfaidjfpajaaInvFnExactStateAfter
import Derived.Test.YtgnpfaidjfpajaaWHelp
namespace Go.Proofs.Ytgnpfaidjfpajaa.Pure
open Go.RowKit Go.Proofs.YtgnpfaidjfpajaaW.PrintWords Go.Proofs.YtgnpfaidjfpajaaW.PrintLast Go.Proofs.YtgnpfaidjfpajaaW.PrintMore Go.Proofs.YtgnpfaidjfpajaaW.Help Go.Proofs.Ytgnpfaidjfpajaa.PFnExactStateAfter
set_option linter.unusedVariables false

theorem szEventS (l : List S34) (a : Int) (h0 : 0 ≤ a) (h1 : a ≤ 1048576) (hl : l.length ≤ 9223372036854775807) :
    laws_szEventS.f l a = some (if a < l.length then -1 else a - l.length) := by
  unfold laws_szEventS.f
  rw [w64 (by omega) (by omega)]
  by_cases h : a < l.length
  · rw [if_pos (by omega), if_pos h]
  · rw [if_neg (by omega), if_neg h]

def convEvent (x : S34) : S37 := ⟨x.f0, x.f1⟩

theorem toEventS (l : List S34) (hl : l.length ≤ 1048576) : Ev (fun k => laws_toEventS.f k l) (l.map convEvent) := by
  unfold laws_toEventS.f
  refine Ev.pos (by omega) (Ev.pos (by omega) ?_)
  simp only [Int.toNat_natCast]
  refine fill_ev l convEvent z37 (fun k ys i => laws_toEventS.l0 k l ys i) ?_ ?_
  · intro i h ys hy r hr
    refine Ev.step (fun k => laws_toEventS.l0.eq_2 ..) ?_
    refine Ev.pos (by omega) (Ev.pos (by omega) ?_)
    refine Ev.const (a := (l[i].f0, l[i].f1)) (by simp [laws_toEvent.f, rd_T34, h]) ?_
    refine Ev.pos (by omega) ?_
    rw [w64 (by omega) (by omega)]
    exact hr
  · intro ys hy
    refine Ev.step (fun k => laws_toEventS.l0.eq_2 ..) ?_
    exact Ev.neg (by omega) (Ev.now _)

theorem eqEventS (l : List S37) (hl : l.length ≤ 1048576) : Ev (fun k => laws_eqEventS.f k l l) true := by
  unfold laws_eqEventS.f
  refine Ev.pos rfl ?_
  refine down_ev l.length (fun k i => laws_eqEventS.l0 k l l i) ?_ ?_
  · intro i h hr
    refine Ev.step (fun k => laws_eqEventS.l0.eq_2 ..) ?_
    refine Ev.pos (by omega) (Ev.pos (by omega) (Ev.pos (by omega) ?_))
    refine Ev.const (a := true) (by simp [laws_eqEvent.f]) ?_
    refine Ev.pos rfl ?_
    rw [w64 (by omega) (by omega)]
    exact hr
  · refine Ev.step (fun k => laws_eqEventS.l0.eq_2 ..) ?_
    exact Ev.neg (by omega) (Ev.now _)

theorem l1In_eq (a b c : Int) : spec_l1In.f a b c = some (decide (b ≤ a ∧ a ≤ c)) := by
  unfold spec_l1In.f
  by_cases h : b ≤ a <;> simp [h]

theorem within_eq (a b c : Int) : impl_within.f a b c = some (decide (b ≤ a ∧ a ≤ c)) := by
  unfold impl_within.f
  by_cases h : b ≤ a <;> simp [h]

/-- Both step functions, side by side. -/
theorem next (st kd : Int) : ∃ o : Option Int, Ev (fun k => spec_l23Next.f k st kd) (o.getD (-1)) ∧ Ev (fun k => impl_nextState.f k st kd) (o.getD 0, o.isSome) ∧ ∀ s, o = some s → 0 ≤ s := by
  have key : ∃ o : Option Int, spec_l23Next.f 3 st kd = some (o.getD (-1)) ∧ impl_nextState.f 3 st kd = some (o.getD 0, o.isSome) ∧ ∀ s, o = some s → 0 ≤ s := by
    have hs : st = 0 ∨ st = 1 ∨ st = 2 ∨ (st ≠ 0 ∧ st ≠ 1 ∧ st ≠ 2) := by omega
    have hk : kd = 1 ∨ kd = 2 ∨ kd = 3 ∨ kd = 4 ∨ kd = 5 ∨ kd = 6 ∨ (kd ≠ 1 ∧ kd ≠ 2 ∧ kd ≠ 3 ∧ kd ≠ 4 ∧ kd ≠ 5 ∧ kd ≠ 6) := by omega
    rcases hs with rfl | rfl | rfl | ⟨s0, s1, s2⟩ <;> rcases hk with rfl | rfl | rfl | rfl | rfl | rfl | ⟨k1, k2, k3, k4, k5, k6⟩ <;> first
    | exact ⟨some 1, rfl, rfl, fun s h => by cases h; decide⟩
    | exact ⟨some 2, rfl, rfl, fun s h => by cases h; decide⟩
    | exact ⟨some 0, rfl, rfl, fun s h => by cases h; decide⟩
    | exact ⟨none, rfl, rfl, fun s h => by cases h⟩
    | (refine ⟨none, ?_, ?_, fun s h => by cases h⟩ <;> simp [spec_l23Next.f, spec_l23Next.j0, spec_l23Next.j1, spec_l23Next.j2, impl_nextState.f, impl_nextState.j0, impl_nextState.j1, impl_nextState.j2, *])
  obtain ⟨o, h1, h2, h3⟩ := key
  exact ⟨o, Ev.of (fun k => spec_l23Next.mono _ _ k) h1, Ev.of (fun k => impl_nextState.mono _ _ k) h2, h3⟩
theorem states (xs : List S37) (hl : xs.length ≤ 1048576) : ∀ d i : Nat, i + d = xs.length → ∀ st : Int, 0 ≤ st → ∃ o : Option Int, Ev (fun k => spec_l23State.l0 k xs st i) (o.getD (-1)) ∧
    Ev (fun k => impl_stateAfter.l0 k xs st xs xs.length i) (o.getD 0, o.isSome && decide ((xs.length : Int) ≤ 20)) ∧ ∀ s, o = some s → 0 ≤ s := by
  intro d
  induction d with
  | zero =>
    intro i hi st hst
    refine ⟨some st, ?_, ?_, fun s h => by cases h; exact hst⟩
    · refine Ev.step (fun k => spec_l23State.l0.eq_2 ..) (Ev.neg (by omega) (Ev.now _))
    · refine Ev.step (fun k => impl_stateAfter.l0.eq_2 ..) (Ev.neg (by omega) (Ev.now _))
  | succ d ih =>
    intro i hi st hst
    have w1 : wrap64 ((i : Int) + 1) = ((i + 1 : Nat) : Int) := by rw [w64 (by omega) (by omega)]; rfl
    obtain ⟨o, n1, n2, n3⟩ := next st (rd_T37 xs i).f1
    by_cases c1 : 0 ≤ (rd_T37 xs i).f0 ∧ (rd_T37 xs i).f0 ≤ 9999
    · by_cases c2 : (i : Int) > 0 ∧ (rd_T37 xs i).f0 < (rd_T37 xs (wrap64 (i - 1))).f0
      · refine ⟨none, ?_, ?_, fun s h => by cases h⟩
        · refine Ev.step (fun k => spec_l23State.l0.eq_2 ..) (Ev.pos (by omega) (Ev.pos (by omega) (Ev.const (l1In_eq _ _ _) (Ev.pos (by simp [c1]) (Ev.pos c2.1 ?_)))))
          have := w64 (x := (i : Int) - 1) (by omega) (by omega)
          refine Ev.pos (by omega) (Ev.pos (by omega) ?_)
          refine Ev.step (fun k => spec_l23State.j1.eq_2 ..) (Ev.pos (by simp; exact c2.2) (Ev.now _))
        · refine Ev.step (fun k => impl_stateAfter.l0.eq_2 ..) (Ev.pos (by omega) (Ev.pos (by omega) (Ev.pos (by omega) (Ev.bind n2 ?_))))
          refine Ev.ite (fun _ => Ev.const (within_eq _ _ _) (Ev.pos (by simp [c1]) (Ev.pos c2.1 ?_))) (fun _ => Ev.now _)
          have := w64 (x := (i : Int) - 1) (by omega) (by omega)
          exact Ev.pos (by omega) (Ev.pos (by omega) (Ev.pos c2.2 (Ev.now _)))
      · have sp : ∀ r, Ev (fun k => spec_l23State.j1 k xs st i false) r → Ev (fun k => spec_l23State.l0 k xs st i) r := by
          intro r hr
          refine Ev.step (fun k => spec_l23State.l0.eq_2 ..) (Ev.pos (by omega) (Ev.pos (by omega) (Ev.const (l1In_eq _ _ _) (Ev.pos (by simp [c1]) ?_))))
          refine Ev.ite (fun hp => ?_) (fun _ => hr)
          have := w64 (x := (i : Int) - 1) (by omega) (by omega)
          refine Ev.pos (by omega) (Ev.pos (by omega) ?_)
          have : decide ((rd_T37 xs (wrap64 ((i : Int) - 1))).f0 > (rd_T37 xs i).f0) = false := by simp; omega
          rw [this]
          exact hr
        cases o with
        | none =>
          refine ⟨none, sp _ ?_, ?_, fun s h => by cases h⟩
          · refine Ev.step (fun k => spec_l23State.j1.eq_2 ..) (Ev.neg (by simp) (Ev.pos (by omega) (Ev.pos (by omega) (Ev.bind n1 (Ev.pos (by simp) (Ev.now _))))))
          · exact Ev.step (fun k => impl_stateAfter.l0.eq_2 ..) (Ev.pos (by omega) (Ev.pos (by omega) (Ev.pos (by omega) (Ev.bind n2 (Ev.neg (by simp) (Ev.now _))))))
        | some s =>
          have hs := n3 s rfl
          obtain ⟨o', s1, s2, s3⟩ := ih (i + 1) (by omega) s hs
          refine ⟨o', sp _ ?_, ?_, s3⟩
          · refine Ev.step (fun k => spec_l23State.j1.eq_2 ..) (Ev.neg (by simp) (Ev.pos (by omega) (Ev.pos (by omega) (Ev.bind n1 (Ev.neg (by simp; omega) ?_)))))
            rw [w1]
            exact s1
          · refine Ev.step (fun k => impl_stateAfter.l0.eq_2 ..) (Ev.pos (by omega) (Ev.pos (by omega) (Ev.pos (by omega) (Ev.bind n2 (Ev.pos (by simp) (Ev.const (within_eq _ _ _) (Ev.pos (by simp [c1]) ?_)))))))
            rw [w1]
            refine Ev.ite (fun hp => ?_) (fun _ => s2)
            have := w64 (x := (i : Int) - 1) (by omega) (by omega)
            exact Ev.pos (by omega) (Ev.pos (by omega) (Ev.neg (by omega) s2))
    · refine ⟨none, ?_, ?_, fun s h => by cases h⟩
      · refine Ev.step (fun k => spec_l23State.l0.eq_2 ..) (Ev.pos (by omega) (Ev.pos (by omega) (Ev.const (l1In_eq _ _ _) (Ev.neg (by simp; omega) ?_))))
        exact Ev.step (fun k => spec_l23State.j1.eq_2 ..) (Ev.pos rfl (Ev.now _))
      · refine Ev.step (fun k => impl_stateAfter.l0.eq_2 ..) (Ev.pos (by omega) (Ev.pos (by omega) (Ev.pos (by omega) (Ev.bind n2 ?_))))
        exact Ev.ite (fun _ => Ev.const (within_eq _ _ _) (Ev.neg (by simp; omega) (Ev.now _))) (fun _ => Ev.now _)

/-- The state after all events: the reference's and the program's. -/
theorem after (xs : List S37) (hl : xs.length ≤ 1048576) : ∃ o : Option Int, Ev (fun k => spec_l23State.f k xs) (o.getD (-1)) ∧ (∃ q, Ev (fun k => impl_stateAfter.f k xs) (q, o.isSome) ∧ (o.isSome = true → q = o.getD 0)) ∧ ∀ s, o = some s → 0 ≤ s := by
  obtain ⟨o, h1, h2, h3⟩ := states xs hl xs.length 0 (by omega) 0 (by omega)
  by_cases c : (xs.length : Int) > 20
  · have c' : ¬ ((xs.length : Int) ≤ 20) := by omega
    refine ⟨none, ?_, ⟨o.getD 0, Ev.eq h2 (by simp [c']), by simp⟩, fun s h => by cases h⟩
    unfold spec_l23State.f
    exact Ev.pos c (Ev.now _)
  · have c' : (xs.length : Int) ≤ 20 := by omega
    refine ⟨o, ?_, ⟨o.getD 0, Ev.eq h2 (by simp [c']), fun _ => rfl⟩, h3⟩
    unfold spec_l23State.f
    exact Ev.neg c h1

theorem both (xs : List S37) (hl : xs.length ≤ 1048576) : ∃ r, Ev (fun k => spec_StateAfter.f k xs) r ∧ Ev (fun k => impl_StateAfter.f k xs) r := by
  obtain ⟨o, h1, ⟨q, h2, h4⟩, h3⟩ := after xs hl
  unfold spec_StateAfter.f impl_StateAfter.f
  cases o with
  | none => exact ⟨(0, false), Ev.bind h1 (Ev.pos (by simp) (Ev.now _)), Ev.bind h2 (Ev.neg (by simp) (Ev.now _))⟩
  | some s =>
    have hs := h3 s rfl
    have hq : q = s := h4 rfl
    subst hq
    exact ⟨(q, true), Ev.bind h1 (Ev.neg (by simp; omega) (Ev.bind h1 (Ev.now _))), Ev.bind h2 (Ev.pos rfl (Ev.now _))⟩

theorem FnExactStateAfter : ∀ (l0 : (List S34)), (l0.length ≤ 9223372036854775807 ∧ ∀ x ∈ l0, inv34 x) → ∃ k, laws_FnExactStateAfter.f k l0 = some true := by
  intro l0 ⟨hl, _⟩
  refine Ev.rounds ?_
  unfold laws_FnExactStateAfter.f
  refine Ev.const (szEventS l0 1048576 (by omega) (by omega) hl) ?_
  by_cases hz : (1048576 : Int) < l0.length
  · exact Ev.pos (by rw [if_pos hz]; omega) (Ev.now _)
  · refine Ev.neg (by rw [if_neg hz]; omega) ?_
    have hn : l0.length ≤ 1048576 := by omega
    obtain ⟨r, h1, h2⟩ := both (l0.map convEvent) (by simpa using hn)
    refine Ev.bind (toEventS l0 hn) (Ev.bind h1 (Ev.bind (toEventS l0 hn) (Ev.bind h2 ?_)))
    refine Ev.pos rfl ?_
    refine Ev.step (fun k => laws_FnExactStateAfter.j0.eq_2 ..) (Ev.neg (by simp) ?_)
    exact Ev.bind (toEventS l0 hn) (Ev.bind (eqEventS _ (by simpa using hn)) (Ev.pos rfl (Ev.now _)))
end Go.Proofs.Ytgnpfaidjfpajaa.Pure
