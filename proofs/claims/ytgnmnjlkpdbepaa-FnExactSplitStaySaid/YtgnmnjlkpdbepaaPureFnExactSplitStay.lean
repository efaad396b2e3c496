/- The program's SplitStay returns what the reference's returns, for all arguments; the argument reads as it did, and the result is new memory. No condition. -/
import Derived.Test.YtgnmnjlkpdbepaaInvFnExactSplitStay
import Derived.Test.YtgnmnjlkpdbepaaWHelp
namespace Go.Proofs.Ytgnmnjlkpdbepaa.Pure
open Go.RowKit Go.Proofs.YtgnmnjlkpdbepaaW.PrintWords Go.Proofs.YtgnmnjlkpdbepaaW.PrintLast Go.Proofs.YtgnmnjlkpdbepaaW.PrintMore Go.Proofs.YtgnmnjlkpdbepaaW.Help Go.Proofs.Ytgnmnjlkpdbepaa.PFnExactSplitStay
set_option linter.unusedVariables false

def convRateStep (x : S76) : S56 := ⟨x.f0, x.f1⟩
theorem szRateStepS (l : List S76) (a : Int) (h0 : 0 ≤ a) (h1 : a ≤ 1048576) (hl : l.length ≤ 9223372036854775807) :
    laws_szRateStepS.f l a = some (if a < l.length then -1 else a - l.length) := by
  unfold laws_szRateStepS.f
  rw [w64 (by omega) (by omega)]
  by_cases h : a < l.length
  · rw [if_pos (by omega), if_pos h]
  · rw [if_neg (by omega), if_neg h]
/-- The size: below nought, or no more than a million steps. -/
theorem szCharge (f : Int) (l : List S76) (g a : Int) (h0 : 0 ≤ a) (h1 : a ≤ 1048576) (hl : l.length ≤ 9223372036854775807) :
    ∃ z : Int, laws_szCharge.f f l g a = some z ∧ z ≤ 1048576 ∧ (0 ≤ z → l.length ≤ 1048576) := by
  unfold laws_szCharge.f
  rw [szRateStepS l a h0 h1 hl]
  by_cases h : a < l.length
  · rw [if_pos h]
    exact ⟨-1, rfl, by omega, by omega⟩
  · rw [if_neg h]
    refine ⟨a - l.length, ?_, by omega, by omega⟩
    show (if a - (l.length : Int) < 0 then _ else _) = _
    rw [if_neg (by omega)]
theorem toRateStepS (l : List S76) (hl : l.length ≤ 1048576) : Ev (fun k => laws_toRateStepS.f k l) (l.map convRateStep) := by
  unfold laws_toRateStepS.f
  refine Ev.pos (by omega) (Ev.pos (by omega) ?_)
  simp only [Int.toNat_natCast]
  refine fill_ev l convRateStep z56 (fun k ys i => laws_toRateStepS.l0 k l ys i) ?_ ?_
  · intro i h ys hy r hr
    refine Ev.step (fun k => laws_toRateStepS.l0.eq_2 ..) ?_
    refine Ev.pos (by omega) (Ev.pos (by omega) ?_)
    refine Ev.const (a := (l[i].f0, l[i].f1)) (by simp [laws_toRateStep.f, rd_T76, h]) ?_
    refine Ev.pos (by omega) ?_
    rw [w64 (by omega) (by omega)]
    exact hr
  · intro ys hy
    refine Ev.step (fun k => laws_toRateStepS.l0.eq_2 ..) ?_
    exact Ev.neg (by omega) (Ev.now _)
theorem toCharge (f : Int) (l : List S76) (g : Int) (hl : l.length ≤ 1048576) : Ev (fun k => laws_toCharge.f k f l g) (f, l.map convRateStep, g) := by
  unfold laws_toCharge.f
  exact Ev.bind (toRateStepS l hl) (Ev.now _)
theorem eqRateStepS (l : List S56) (hl : l.length ≤ 1048577) : Ev (fun k => laws_eqRateStepS.f k l l) true := by
  unfold laws_eqRateStepS.f
  refine Ev.pos rfl ?_
  refine down_ev l.length (fun k i => laws_eqRateStepS.l0 k l l i) ?_ ?_
  · intro i h hr
    refine Ev.step (fun k => laws_eqRateStepS.l0.eq_2 ..) ?_
    refine Ev.pos (by omega) (Ev.pos (by omega) (Ev.pos (by omega) ?_))
    refine Ev.const (a := true) (by simp [laws_eqRateStep.f]) ?_
    refine Ev.pos rfl ?_
    rw [w64 (by omega) (by omega)]
    exact hr
  · refine Ev.step (fun k => laws_eqRateStepS.l0.eq_2 ..) ?_
    exact Ev.neg (by omega) (Ev.now _)
theorem eqCharge (f : Int) (l : List S56) (g : Int) (hl : l.length ≤ 1048577) : Ev (fun k => laws_eqCharge.f k f l g f l g) true := by
  unfold laws_eqCharge.f
  exact Ev.pos rfl (Ev.bind (eqRateStepS l hl) (Ev.pos rfl (Ev.pos rfl (Ev.now _))))

theorem l1In_eq (a b c : Int) : spec_l1In.f a b c = some (decide (b ≤ a ∧ a ≤ c)) := by
  unfold spec_l1In.f
  by_cases h : b ≤ a <;> simp [h]

theorem within_eq (a b c : Int) : impl_within.f a b c = some (decide (b ≤ a ∧ a ≤ c)) := by
  unfold impl_within.f
  by_cases h : b ≤ a <;> simp [h]

def stepOk (x : S56) : Prop := (1 ≤ x.f0 ∧ x.f0 ≤ 100) ∧ (0 ≤ x.f1 ∧ x.f1 ≤ 10000)
instance (x : S56) : Decidable (stepOk x) := by unfold stepOk; infer_instance
def Good (f : Int) (st : List S56) (g : Int) : Prop := (0 ≤ f ∧ f ≤ 30) ∧ (1 ≤ (st.length : Int) ∧ (st.length : Int) ≤ 6) ∧ (100 ≤ g ∧ g ≤ 300) ∧ ∀ j : Nat, j < st.length → stepOk (rd_T56 st j)
theorem notOk (x : S56) : impl_IsValidCharge_1.f x.f0 x.f1 = some (!decide (stepOk x)) := by
  unfold impl_IsValidCharge_1.f stepOk
  rw [within_eq, within_eq]
  by_cases h : 1 ≤ x.f0 ∧ x.f0 ≤ 100
  · simp only [h, Option.bind_some, true_and, and_self, decide_true, if_true]
  · simp only [h, Option.bind_some, false_and, decide_false]
    rfl
theorem goodLoop (st : List S56) (hl : st.length ≤ 1048577) (f g : Int) : ∀ d i : Nat, i + d = st.length → ∃ (b : Bool) (q : Int), Ev (fun k => spec_l22Good.l0 k i f st g) b ∧
    Ev (fun k => slices_IndexFunc_impl_RateStep.l0 k st st.length i) q ∧ (!decide (q ≥ 0)) = b ∧ (b = true ↔ ∀ j : Nat, i ≤ j → j < st.length → stepOk (rd_T56 st j)) := by
  intro d
  induction d with
  | zero =>
    intro i hi
    exact ⟨true, -1, Ev.step (fun k => spec_l22Good.l0.eq_2 ..) (Ev.neg (by omega) (Ev.now _)), Ev.step (fun k => slices_IndexFunc_impl_RateStep.l0.eq_2 ..) (Ev.neg (by omega) (Ev.now _)), rfl, ⟨fun _ j h1 h2 => absurd h2 (by omega), fun _ => rfl⟩⟩
  | succ d ih =>
    intro i hi
    have li : (i : Int) < st.length := by omega
    have l0 : (0 : Int) ≤ i := by omega
    have w1 : wrap64 ((i : Int) + 1) = ((i + 1 : Nat) : Int) := by rw [w64 (by omega) (by omega)]; rfl
    have no := notOk (rd_T56 st i)
    by_cases c : stepOk (rd_T56 st i)
    · obtain ⟨b, q, h1, h2, h3, h4⟩ := ih (i + 1) (by omega)
      rw [← w1] at h1 h2
      refine ⟨b, q, ?_, ?_, h3, h4.trans ⟨fun h j j1 j2 => ?_, fun h j j1 j2 => h j (by omega) j2⟩⟩
      · exact Ev.step (fun k => spec_l22Good.l0.eq_2 ..) (Ev.pos li (Ev.pos l0 (Ev.const (l1In_eq _ _ _) (Ev.pos (decide_eq_true c.1) (Ev.const (l1In_eq _ _ _) (Ev.pos (decide_eq_true c.2) h1))))))
      · refine Ev.step (fun k => slices_IndexFunc_impl_RateStep.l0.eq_2 ..) (Ev.pos li (Ev.pos l0 (Ev.pos li (Ev.const no (Ev.neg ?_ h2)))))
        rw [decide_eq_true c]
        exact fun h => by cases h
      · rcases Nat.lt_or_ge i j with q | q
        · exact h j q j2
        · obtain rfl : j = i := by omega
          exact c
    · refine ⟨false, i, ?_, ?_, by simp, ⟨fun h => (by cases h), fun h => absurd (h i (Nat.le_refl _) (by omega)) c⟩⟩
      · refine Ev.step (fun k => spec_l22Good.l0.eq_2 ..) (Ev.pos li (Ev.pos l0 (Ev.const (l1In_eq _ _ _) (Ev.ite (fun h1 => Ev.const (l1In_eq _ _ _) (Ev.neg (fun h2 => c ⟨of_decide_eq_true h1, of_decide_eq_true h2⟩) (Ev.now _))) (fun _ => Ev.now _)))))
      · refine Ev.step (fun k => slices_IndexFunc_impl_RateStep.l0.eq_2 ..) (Ev.pos li (Ev.pos l0 (Ev.pos li (Ev.const no (Ev.pos ?_ (Ev.now _))))))
        rw [decide_eq_false c]
        rfl
/-- Both tests of a charge. -/
theorem good (f : Int) (st : List S56) (hl : st.length ≤ 1048577) (g : Int) : ∃ b : Bool, Ev (fun k => spec_l22Good.f k f st g) b ∧ Ev (fun k => impl_IsValidCharge.f k f st g) b ∧ (b = true ↔ Good f st g) := by
  unfold spec_l22Good.f impl_IsValidCharge.f slices_ContainsFunc_impl_RateStep.f slices_IndexFunc_impl_RateStep.f
  have jt : Ev (fun k => spec_l22Good.j0 k true f st g) false := Ev.step (fun k => spec_l22Good.j0.eq_2 ..) (Ev.pos rfl (Ev.now _))
  by_cases c0 : 0 ≤ f ∧ f ≤ 30
  · by_cases c1 : 1 ≤ (st.length : Int) ∧ (st.length : Int) ≤ 6
    · by_cases c2 : 100 ≤ g ∧ g ≤ 300
      · obtain ⟨b, q, h1, h2, h3, h4⟩ := goodLoop st hl f g st.length 0 (by omega)
        refine ⟨b, Ev.const (l1In_eq _ _ _) (Ev.pos (decide_eq_true c0) (Ev.const (l1In_eq _ _ _) (Ev.pos (decide_eq_true c1) (Ev.const (l1In_eq _ _ _) (Ev.step (fun k => spec_l22Good.j0.eq_2 ..) (Ev.neg ?_ h1)))))),
          Ev.const (within_eq _ _ _) (Ev.pos (decide_eq_true c0) (Ev.const (within_eq _ _ _) (Ev.pos (decide_eq_true c1) (Ev.const (within_eq _ _ _) (Ev.pos (decide_eq_true c2) (Ev.bind (Ev.bind h2 (Ev.now _)) (Ev.eq (Ev.now _) h3))))))), h4.trans ⟨fun h => ⟨c0, c1, c2, fun j hj => h j (by omega) hj⟩, fun h j _ hj => h.2.2.2 j hj⟩⟩
        rw [decide_eq_true c2]
        exact fun h => by cases h
      · refine ⟨false, Ev.const (l1In_eq _ _ _) (Ev.pos (decide_eq_true c0) (Ev.const (l1In_eq _ _ _) (Ev.pos (decide_eq_true c1) (Ev.const (l1In_eq _ _ _) ?_)))),
          Ev.const (within_eq _ _ _) (Ev.pos (decide_eq_true c0) (Ev.const (within_eq _ _ _) (Ev.pos (decide_eq_true c1) (Ev.const (within_eq _ _ _) (Ev.neg (fun h => c2 (of_decide_eq_true h)) (Ev.now _)))))), ⟨fun h => (by cases h), fun h => absurd h.2.2.1 c2⟩⟩
        rw [decide_eq_false c2]
        exact jt
    · exact ⟨false, Ev.const (l1In_eq _ _ _) (Ev.pos (decide_eq_true c0) (Ev.const (l1In_eq _ _ _) (Ev.neg (fun h => c1 (of_decide_eq_true h)) jt))),
          Ev.const (within_eq _ _ _) (Ev.pos (decide_eq_true c0) (Ev.const (within_eq _ _ _) (Ev.neg (fun h => c1 (of_decide_eq_true h)) (Ev.now _)))), ⟨fun h => (by cases h), fun h => absurd h.2.1 c1⟩⟩
  · exact ⟨false, Ev.const (l1In_eq _ _ _) (Ev.neg (fun h => c0 (of_decide_eq_true h)) jt), Ev.const (within_eq _ _ _) (Ev.neg (fun h => c0 (of_decide_eq_true h)) (Ev.now _)), ⟨fun h => (by cases h), fun h => absurd h.1 c0⟩⟩

/-- The days of step i and of the ones behind it. -/
def splitAt' (st : List S56) : Nat → Nat → Int → List Int
  | 0, _, left => [left]
  | d + 1, i, left => mn left (rd_T56 st i).f0 :: splitAt' st d (i + 1) (left - mn left (rd_T56 st i).f0)
theorem splitAt_length (st : List S56) : ∀ d i : Nat, ∀ left : Int, (splitAt' st d i left).length = d + 1 := by
  intro d
  induction d with
  | zero => intro i left; rfl
  | succ d ih => intro i left; exact congrArg (· + 1) (ih (i + 1) _)
def splitDay (f : Int) (st : List S56) (days : Int) : List Int := mn days f :: splitAt' st (st.length - 1) 0 (days - mn days f)
theorem implSplit (f : Int) (st : List S56) (g : Int) (h : Good f st g) (days : Int) (d0 : 0 ≤ days) (d1 : days ≤ 400) : Ev (fun k => impl_splitStay.f k f st g days) (splitDay f st days) := by
  obtain ⟨h0, h1, h2, h3⟩ := h
  have main : ∀ d i : Nat, i + 1 + d = st.length → ∀ left : Int, 0 ≤ left → left ≤ 400 → ∀ out : List Int, out.length ≤ i + 1 → Ev (fun k => impl_splitStay.l0 k out left st st.length i f st g) (out ++ splitAt' st d i left) := by
    intro d
    induction d with
    | zero =>
      intro i hi left l0 l1 out ho
      have w0 : wrap64 ((st.length : Int) - 1) = i := by rw [w64 (by omega) (by omega)]; omega
      have w1 : wrap64 ((i : Int) + 1) = ((i + 1 : Nat) : Int) := by rw [w64 (by omega) (by omega)]; rfl
      refine Ev.step (fun k => impl_splitStay.l0.eq_2 ..) (Ev.pos (by omega) (Ev.pos (by omega) (Ev.pos (by omega) (Ev.pos w0.symm (Ev.pos (by omega) ?_)))))
      rw [w1]
      exact Ev.step (fun k => impl_splitStay.l0.eq_2 ..) (Ev.neg (by omega) (Ev.now _))
    | succ d ih =>
      intro i hi left l0 l1 out ho
      obtain ⟨⟨p1, p2⟩, _⟩ := h3 i (by omega)
      have m : 0 ≤ mn left (rd_T56 st i).f0 ∧ mn left (rd_T56 st i).f0 ≤ left := by unfold mn; split <;> omega
      obtain ⟨m0, m1⟩ := m
      generalize hx : mn left (rd_T56 st i).f0 = x at m0 m1
      have li : (i : Int) < st.length := by omega
      have i0 : (0 : Int) ≤ i := by omega
      have ni : ¬ (i : Int) = (st.length : Int) - 1 := by omega
      have lo : out.length < 17592186044416 := by omega
      have lo2 : (out ++ [x]).length ≤ i + 1 + 1 := by rw [List.length_append, List.length_singleton]; omega
      have r := ih (i + 1) (by omega) (left - x) (by omega) (by omega) (out ++ [x]) lo2
      have w0 : wrap64 ((st.length : Int) - 1) = (st.length : Int) - 1 := w64 (by omega) (by omega)
      have w1 : wrap64 ((i : Int) + 1) = ((i + 1 : Nat) : Int) := by rw [w64 (by omega) (by omega)]; rfl
      have w2 : wrap64 (left - x) = left - x := w64 (by omega) (by omega)
      have E : splitAt' st (d + 1) i left = x :: splitAt' st d (i + 1) (left - x) := by rw [← hx]; rfl
      refine Ev.step (fun k => impl_splitStay.l0.eq_2 ..) (Ev.pos li (Ev.pos i0 (Ev.pos li (Ev.neg (by rw [w0]; exact ni) (Ev.pos lo ?_)))))
      rw [hx, w1, w2]
      refine Ev.eq r ?_
      rw [E, List.append_assoc]
      rfl
  have m : 0 ≤ mn days f ∧ mn days f ≤ days := by unfold mn; split <;> omega
  have w2 : wrap64 (days - mn days f) = days - mn days f := w64 (by omega) (by omega)
  have z := main (st.length - 1) 0 (by omega) (days - mn days f) (by omega) (by omega) [mn days f] (by simp)
  have hr : rd [mn days f] 0 = mn days f := rfl
  unfold impl_splitStay.f
  refine Ev.some (Ev.pos (by simp) ?_)
  rw [hr, w2]
  exact z


/-- How many steps on the day lies that is so far behind step i's first. -/
def stepOff (st : List S56) : Nat → Nat → Int → Nat
  | 0, _, _ => 0
  | d + 1, i, left => if left ≤ (rd_T56 st i).f0 then 0 else stepOff st d (i + 1) (left - (rd_T56 st i).f0) + 1
theorem stepOff_le (st : List S56) : ∀ d i : Nat, ∀ left : Int, stepOff st d i left ≤ d := by
  intro d
  induction d with
  | zero => intro i left; exact Nat.le_refl _
  | succ d ih =>
    intro i left
    rw [show stepOff st (d + 1) i left = if left ≤ (rd_T56 st i).f0 then 0 else stepOff st d (i + 1) (left - (rd_T56 st i).f0) + 1 from rfl]
    have := ih (i + 1) (left - (rd_T56 st i).f0)
    split <;> omega
/-- The step of a day. -/
def stepDay (f : Int) (st : List S56) (day : Int) : Int := if day ≤ f then -1 else (stepOff st (st.length - 1) 0 (day - f) : Int)
theorem stepDay_lt (f : Int) (st : List S56) (g : Int) (h : Good f st g) (day : Int) : -1 ≤ stepDay f st day ∧ stepDay f st day < st.length := by
  have := h.2.1
  have := stepOff_le st (st.length - 1) 0 (day - f)
  unfold stepDay
  split <;> omega
theorem specStep (f : Int) (st : List S56) (g : Int) (h : Good f st g) (day : Int) (d1 : day ≤ 401) : Ev (fun k => spec_l22Step.f k f st g day) (stepDay f st day) := by
  obtain ⟨h0, h1, h2, h3⟩ := h
  have main : ∀ d i : Nat, i + 1 + d = st.length → ∀ last : Int, 0 ≤ last → last ≤ 30 + 100 * i → Ev (fun k => spec_l22Step.l0 k day last i f st g) ((i + stepOff st d i (day - last) : Nat) : Int) := by
    intro d
    induction d with
    | zero =>
      intro i hi last l0 l1
      have w1 : wrap64 ((i : Int) + 1) = ((i + 1 : Nat) : Int) := by rw [w64 (by omega) (by omega)]; rfl
      refine Ev.step (fun k => spec_l22Step.l0.eq_2 ..) (Ev.neg (by rw [w1]; omega) (Ev.eq (Ev.now _) ?_))
      rw [w64 (by omega) (by omega), show stepOff st 0 i (day - last) = 0 from rfl]
      omega
    | succ d ih =>
      intro i hi last l0 l1
      obtain ⟨⟨o1, o2⟩, _⟩ := h3 i (by omega)
      have w1 : wrap64 ((i : Int) + 1) = ((i + 1 : Nat) : Int) := by rw [w64 (by omega) (by omega)]; rfl
      have w2 : wrap64 (last + (rd_T56 st i).f0) = last + (rd_T56 st i).f0 := w64 (by omega) (by omega)
      rw [show stepOff st (d + 1) i (day - last) = if day - last ≤ (rd_T56 st i).f0 then 0 else stepOff st d (i + 1) (day - last - (rd_T56 st i).f0) + 1 from rfl]
      refine Ev.step (fun k => spec_l22Step.l0.eq_2 ..) (Ev.pos (by rw [w1]; omega) (Ev.pos (by omega) (Ev.pos (by omega) ?_)))
      by_cases c : day ≤ last + (rd_T56 st i).f0
      · rw [if_pos (by omega)]
        exact Ev.pos (by rw [w2]; exact c) (Ev.now _)
      · rw [if_neg (by omega)]
        have := ih (i + 1) (by omega) (last + (rd_T56 st i).f0) (by omega) (by omega)
        rw [← w1, ← w2] at this
        refine Ev.neg (by rw [w2]; exact c) (Ev.eq this ?_)
        rw [w2, show day - (last + (rd_T56 st i).f0) = day - last - (rd_T56 st i).f0 by omega]
        omega
  unfold spec_l22Step.f stepDay
  by_cases c : day ≤ f
  · rw [if_pos c]
    exact Ev.pos c (Ev.now _)
  · rw [if_neg c]
    exact Ev.neg c (Ev.eq (main (st.length - 1) 0 (by omega) f h0.1 (by omega)) (by simp))


def Asked (f : Int) (st : List S56) (g size days : Int) : Prop := Good f st g ∧ (1 ≤ size ∧ size ≤ 2) ∧ (0 ≤ days ∧ days ≤ 400)
theorem asked (f : Int) (st : List S56) (hl : st.length ≤ 1048577) (g size days : Int) : ∃ b : Bool, Ev (fun k => spec_l22Asked.f k f st g size days) b ∧ Ev (fun k => impl_isStay.f k f st g size days) b ∧ (b = true ↔ Asked f st g size days) := by
  obtain ⟨b, h1, h2, h3⟩ := good f st hl g
  unfold spec_l22Asked.f impl_isStay.f
  by_cases c0 : b = true
  · by_cases c1 : 1 ≤ size ∧ size ≤ 2
    · refine ⟨decide (0 ≤ days ∧ days ≤ 400), Ev.bind h1 (Ev.pos c0 (Ev.const (l1In_eq _ _ _) (Ev.pos (decide_eq_true c1) (Ev.const (l1In_eq _ _ _) (Ev.now _))))), Ev.bind h2 (Ev.pos c0 (Ev.const (within_eq _ _ _) (Ev.pos (decide_eq_true c1) (Ev.const (within_eq _ _ _) (Ev.now _))))), ?_⟩
      exact ⟨fun h => ⟨h3.1 c0, c1, of_decide_eq_true h⟩, fun h => decide_eq_true h.2.2⟩
    · exact ⟨false, Ev.bind h1 (Ev.pos c0 (Ev.const (l1In_eq _ _ _) (Ev.neg (fun h => c1 (of_decide_eq_true h)) (Ev.now _)))), Ev.bind h2 (Ev.pos c0 (Ev.const (within_eq _ _ _) (Ev.neg (fun h => c1 (of_decide_eq_true h)) (Ev.now _)))), ⟨fun h => (by cases h), fun h => absurd h.2.1 c1⟩⟩
  · exact ⟨false, Ev.bind h1 (Ev.neg c0 (Ev.now _)), Ev.bind h2 (Ev.neg c0 (Ev.now _)), ⟨fun h => (by cases h), fun h => absurd (h3.2 h.1) c0⟩⟩

theorem splitAt_zero (st : List S56) (h3 : ∀ j : Nat, j < st.length → stepOk (rd_T56 st j)) : ∀ d i : Nat, i + 1 + d = st.length → splitAt' st d i 0 = List.replicate (d + 1) 0 := by
  intro d
  induction d with
  | zero => intro i _; rfl
  | succ d ih =>
    intro i hi
    have := (h3 i (by omega)).1
    have e : mn 0 (rd_T56 st i).f0 = 0 := if_neg (by omega)
    rw [show splitAt' st (d + 1) i 0 = mn 0 (rd_T56 st i).f0 :: splitAt' st d (i + 1) (0 - mn 0 (rd_T56 st i).f0) from rfl, e, Int.sub_self, ih (i + 1) (by omega)]
    rfl
theorem splitAt_bound (st : List S56) (h3 : ∀ j : Nat, j < st.length → stepOk (rd_T56 st j)) : ∀ d i : Nat, i + 1 + d = st.length → ∀ left : Int, 0 ≤ left → ∀ j : Nat, 0 ≤ (splitAt' st d i left).getD j 0 ∧ (splitAt' st d i left).getD j 0 ≤ left := by
  intro d
  induction d with
  | zero =>
    intro i hi left l0 j
    cases j with
    | zero => exact ⟨l0, Int.le_refl _⟩
    | succ j => exact ⟨Int.le_refl _, l0⟩
  | succ d ih =>
    intro i hi left l0 j
    have := (h3 i (by omega)).1
    have m : 0 ≤ mn left (rd_T56 st i).f0 ∧ mn left (rd_T56 st i).f0 ≤ left := by unfold mn; split <;> omega
    cases j with
    | zero => exact m
    | succ j =>
      obtain ⟨a, b⟩ := ih (i + 1) (by omega) (left - mn left (rd_T56 st i).f0) (by omega) j
      exact ⟨a, Int.le_trans b (by omega)⟩
theorem splitAt_succ (st : List S56) (h3 : ∀ j : Nat, j < st.length → stepOk (rd_T56 st j)) : ∀ d i : Nat, i + 1 + d = st.length → ∀ left : Int, 0 ≤ left →
    splitAt' st d i (left + 1) = (splitAt' st d i left).set (stepOff st d i (left + 1)) ((splitAt' st d i left).getD (stepOff st d i (left + 1)) 0 + 1) := by
  intro d
  induction d with
  | zero => intro i hi left l0; rfl
  | succ d ih =>
    intro i hi left l0
    have := (h3 i (by omega)).1
    have E : ∀ x : Int, splitAt' st (d + 1) i x = mn x (rd_T56 st i).f0 :: splitAt' st d (i + 1) (x - mn x (rd_T56 st i).f0) := fun _ => rfl
    have O : stepOff st (d + 1) i (left + 1) = if left + 1 ≤ (rd_T56 st i).f0 then 0 else stepOff st d (i + 1) (left + 1 - (rd_T56 st i).f0) + 1 := rfl
    rw [E, E, O]
    by_cases c : left + 1 ≤ (rd_T56 st i).f0
    · have e1 : mn (left + 1) (rd_T56 st i).f0 = left + 1 := if_neg (by omega)
      have e2 : mn left (rd_T56 st i).f0 = left := if_neg (by omega)
      rw [e1, e2, if_pos c, Int.sub_self, Int.sub_self]
      rfl
    · have e1 : mn (left + 1) (rd_T56 st i).f0 = (rd_T56 st i).f0 := if_pos (by omega)
      have e2 : mn left (rd_T56 st i).f0 = (rd_T56 st i).f0 := by unfold mn; split <;> omega
      have h := ih (i + 1) (by omega) (left - (rd_T56 st i).f0) (by omega)
      have e3 : left + 1 - (rd_T56 st i).f0 = left - (rd_T56 st i).f0 + 1 := by omega
      rw [e1, e2, if_neg c, e3, h]
      rfl
theorem splitDay_length (f : Int) (st : List S56) (g : Int) (h : Good f st g) (days : Int) : (splitDay f st days).length = st.length + 1 := by
  have := h.2.1.1
  unfold splitDay
  rw [List.length_cons, splitAt_length]
  omega
/-- One day more: the count of its step grows by one. -/
theorem splitDay_succ (f : Int) (st : List S56) (g : Int) (h : Good f st g) (days : Int) (d0 : 0 ≤ days) (d1 : days ≤ 400) :
    (splitDay f st days).set (stepDay f st (days + 1) + 1).toNat (wrap64 (rd (splitDay f st days) (stepDay f st (days + 1) + 1) + 1)) = splitDay f st (days + 1) := by
  obtain ⟨h0, h1, h2, h3⟩ := h
  unfold splitDay stepDay
  by_cases c : days + 1 ≤ f
  · have e1 : mn (days + 1) f = days + 1 := if_neg (by omega)
    have e2 : mn days f = days := if_neg (by omega)
    rw [if_pos c, e1, e2, Int.sub_self, Int.sub_self]
    show (days :: _).set 0 (wrap64 (days + 1)) = _
    rw [w64 (by omega) (by omega)]
    rfl
  · have e1 : mn (days + 1) f = f := if_pos (by omega)
    have e2 : mn days f = f := by unfold mn; split <;> omega
    have e3 : days + 1 - f = days - f + 1 := by omega
    have s := splitAt_succ st h3 (st.length - 1) 0 (by omega) (days - f) (by omega)
    obtain ⟨b0, b1⟩ := splitAt_bound st h3 (st.length - 1) 0 (by omega) (days - f) (by omega) (stepOff st (st.length - 1) 0 (days - f + 1))
    rw [if_neg c, e1, e2, e3, s]
    have t : ((stepOff st (st.length - 1) 0 (days - f + 1) : Int) + 1).toNat = stepOff st (st.length - 1) 0 (days - f + 1) + 1 := by omega
    unfold rd
    rw [t]
    show f :: (splitAt' st (st.length - 1) 0 (days - f)).set _ (wrap64 ((splitAt' st (st.length - 1) 0 (days - f)).getD _ 0 + 1)) = _
    rw [w64 (by omega) (by omega)]
theorem splitDay_zero (f : Int) (st : List S56) (g : Int) (h : Good f st g) : splitDay f st 0 = List.replicate (st.length + 1) 0 := by
  obtain ⟨h0, h1, h2, h3⟩ := h
  have m : mn 0 f = 0 := if_neg (by omega)
  unfold splitDay
  rw [m, Int.sub_self, splitAt_zero st h3 _ 0 (by omega), show st.length - 1 + 1 = st.length by omega]
  rfl
/-- Both part a stay. -/
theorem splitBoth (f : Int) (st : List S56) (hl : st.length ≤ 1048577) (g days : Int) : ∃ r : List Int × Bool, Ev (fun k => spec_SplitStay.f k f st g days) r ∧ Ev (fun k => impl_SplitStay.f k f st g days) r ∧ r.1.length ≤ 1000000000 := by
  obtain ⟨b, h1, h2, h3⟩ := asked f st hl g 1 days
  unfold spec_SplitStay.f impl_SplitStay.f
  by_cases c : b = true
  · obtain ⟨hg, _, d0, d1⟩ := h3.1 c
    have im := implSplit f st g hg days d0 d1
    have hg1 := hg.2.1
    have ln := splitDay_length f st g hg
    obtain ⟨n, hn⟩ : ∃ n : Nat, (n : Int) = days := ⟨days.toNat, by omega⟩
    subst hn
    have main : ∀ d i : Nat, i + d = n → Ev (fun k => spec_SplitStay.l0 k n (splitDay f st i) ((i + 1 : Nat) : Int) f st g) (splitDay f st n, true) := by
      intro d
      induction d with
      | zero =>
        intro i hi
        obtain rfl : i = n := by omega
        exact Ev.step (fun k => spec_SplitStay.l0.eq_2 ..) (Ev.neg (by omega) (Ev.now _))
      | succ d ih =>
        intro i hi
        have w1 : wrap64 (((i + 1 : Nat) : Int) + 1) = ((i + 1 + 1 : Nat) : Int) := by rw [w64 (by omega) (by omega)]; rfl
        have lt := stepDay_lt f st g hg ((i + 1 : Nat) : Int)
        have w2 : wrap64 (stepDay f st ((i + 1 : Nat) : Int) + 1) = stepDay f st ((i + 1 : Nat) : Int) + 1 := w64 (by omega) (by omega)
        have s := splitDay_succ f st g hg i (by omega) (by omega)
        have s' : (splitDay f st i).set (stepDay f st ((i + 1 : Nat) : Int) + 1).toNat (wrap64 (rd (splitDay f st i) (stepDay f st ((i + 1 : Nat) : Int) + 1) + 1)) = splitDay f st ((i + 1 : Nat) : Int) := s
        have l1 := ln i
        have r := ih (i + 1) (by omega)
        refine Ev.step (fun k => spec_SplitStay.l0.eq_2 ..) (Ev.pos (by omega) (Ev.bind (specStep f st g hg _ (by omega)) ?_))
        rw [w2, w1, s']
        exact Ev.pos (by omega) (Ev.pos (by omega) r)
    have w0 : wrap64 ((st.length : Int) + 1) = ((st.length + 1 : Nat) : Int) := by rw [w64 (by omega) (by omega)]; rfl
    have z := main n 0 (by omega)
    refine ⟨(splitDay f st n, true), Ev.bind h1 (Ev.pos c ?_), Ev.bind h2 (Ev.pos c (Ev.bind im (Ev.now _))), ?_⟩
    · rw [w0, Int.toNat_natCast, ← splitDay_zero f st g hg]
      exact Ev.pos (by omega) (Ev.pos (by omega) z)
    · show (splitDay f st n).length ≤ _
      rw [ln]
      omega
  · exact ⟨([], false), Ev.bind h1 (Ev.neg c (Ev.now _)), Ev.bind h2 (Ev.neg c (Ev.now _)), Nat.zero_le _⟩

def mkRateStep (v : Int) : S56 := ⟨v, v + 1⟩
theorem markRateStepS (l : List S56) (hl : l.length ≤ 1048577) (a : Int) (h0 : 0 ≤ a) (h1 : a ≤ 1000000000) : ∃ zs : List S56, Ev (fun k => laws_markRateStepS.f k l a) (a + 2 * l.length, zs) := by
  unfold laws_markRateStepS.f
  obtain ⟨zs, _, _, z3⟩ := mark_ev l.length 2 a mkRateStep (fun k ys v i => laws_markRateStepS.l0 k ys v i) (fun i h ys hy r hr => by
    have e1 : wrap64 (a + 2 * i + 1) = a + 2 * i + 1 := w64 (by omega) (by omega)
    have e4 : wrap64 (a + 2 * i + 1 + 1) = a + 2 * ((i + 1 : Nat) : Int) := by rw [w64 (by omega) (by omega)]; omega
    have e3 : wrap64 ((i : Int) + 1) = ((i + 1 : Nat) : Int) := by rw [w64 (by omega) (by omega)]; rfl
    refine Ev.step (fun k => laws_markRateStepS.l0.eq_2 ..) (Ev.pos (by omega) (Ev.pos (by omega) (Ev.some ?_)))
    rw [e1, e3, e4]
    simp only [rd_T56, Int.toNat_natCast, List.set_set]
    rw [set_getD (by omega)]
    exact hr) (fun ys hy => Ev.step (fun k => laws_markRateStepS.l0.eq_2 ..) (Ev.neg (by omega) (Ev.now _))) l rfl
  exact ⟨zs, z3⟩

theorem rd_set_self (ys : List Int) (i : Nat) (v : Int) (h : i < ys.length) : rd (ys.set i v) (i : Int) = v := by
  unfold rd
  rw [Int.toNat_natCast, List.getD_eq_getElem?_getD, List.getElem?_set_self h]
  rfl
theorem rd_set_ne (ys : List Int) (i j : Nat) (v : Int) (h : j ≠ i) : rd (ys.set i v) (j : Int) = rd ys (j : Int) := by
  unfold rd
  rw [Int.toNat_natCast, List.getD_eq_getElem?_getD, List.getElem?_set_ne (by omega), ← List.getD_eq_getElem?_getD]

theorem eqIntS (l : List Int) (hl : l.length ≤ 1000000000) : Ev (fun k => laws_eqIntS.f k l l) true := by
  unfold laws_eqIntS.f
  refine Ev.pos rfl ?_
  refine down_ev l.length (fun k i => laws_eqIntS.l0 k l l i) ?_ ?_
  · intro i h hr
    refine Ev.step (fun k => laws_eqIntS.l0.eq_2 ..) (Ev.pos (by omega) (Ev.pos (by omega) (Ev.pos (by omega) (Ev.pos rfl ?_))))
    rw [w64 (by omega) (by omega)]
    exact hr
  · exact Ev.step (fun k => laws_eqIntS.l0.eq_2 ..) (Ev.neg (by omega) (Ev.now _))

theorem markIntS_at (l : List Int) (hl : l.length ≤ 1000000000) (a : Int) (h0 : 0 ≤ a) (h1 : a ≤ 1000000000) : ∀ d i : Nat, i + d = l.length → ∀ ys : List Int, ys.length = l.length → (∀ j : Nat, j < i → rd ys j = a + j) →
    ∃ zs : List Int, zs.length = l.length ∧ (∀ j : Nat, j < l.length → rd zs j = a + j) ∧ Ev (fun k => laws_markIntS.l0 k ys (a + i) i) (a + l.length, zs) := by
  intro d
  induction d with
  | zero =>
    intro i hi ys hy hm
    obtain rfl : i = l.length := by omega
    exact ⟨ys, hy, hm, Ev.step (fun k => laws_markIntS.l0.eq_2 ..) (Ev.neg (by omega) (Ev.now _))⟩
  | succ d ih =>
    intro i hi ys hy hm
    obtain ⟨zs, z1, z2, z3⟩ := ih (i + 1) (by omega) (ys.set i (a + i)) (by simpa using hy) (fun j hj => by
      rcases Nat.lt_or_ge j i with h | h
      · rw [rd_set_ne _ _ _ _ (by omega)]
        exact hm j h
      · obtain rfl : j = i := by omega
        exact rd_set_self _ _ _ (by omega))
    have e2 : wrap64 (a + i + 1) = a + ((i + 1 : Nat) : Int) := by rw [w64 (by omega) (by omega)]; omega
    have e3 : wrap64 ((i : Int) + 1) = ((i + 1 : Nat) : Int) := by rw [w64 (by omega) (by omega)]; rfl
    refine ⟨zs, z1, z2, Ev.step (fun k => laws_markIntS.l0.eq_2 ..) (Ev.pos (by omega) (Ev.pos (by omega) ?_))⟩
    rw [e2, e3, Int.toNat_natCast]
    exact z3
/-- Marks are laid one behind the other. -/
def Marked (zs : List Int) (a : Int) : Prop := ∀ j : Nat, j < zs.length → rd zs j = a + j
theorem heldIntS (zs : List Int) (hl : zs.length ≤ 1000000000) (a : Int) (h0 : 0 ≤ a) (h1 : a ≤ 1000000000) (hz : Marked zs a) : Ev (fun k => laws_heldIntS.f k zs a) (a + zs.length) := by
  unfold laws_heldIntS.f
  have held : ∀ d i : Nat, i + d = zs.length → Ev (fun k => laws_heldIntS.l0 k zs (a + i) i) (a + zs.length) := by
    intro d
    induction d with
    | zero =>
      intro i hi
      obtain rfl : i = zs.length := by omega
      exact Ev.step (fun k => laws_heldIntS.l0.eq_2 ..) (Ev.neg (by omega) (Ev.now _))
    | succ d ih =>
      intro i hi
      have := ih (i + 1) (by omega)
      have e2 : wrap64 (a + i + 1) = a + ((i + 1 : Nat) : Int) := by rw [w64 (by omega) (by omega)]; omega
      have e3 : wrap64 ((i : Int) + 1) = ((i + 1 : Nat) : Int) := by rw [w64 (by omega) (by omega)]; rfl
      refine Ev.step (fun k => laws_heldIntS.l0.eq_2 ..) (Ev.pos (by omega) (Ev.pos (by omega) (Ev.pos (hz i (by omega)) ?_)))
      rw [e2, e3]
      exact this
  simpa using held zs.length 0 (by omega)
theorem markIntS' (l : List Int) (hl : l.length ≤ 1000000000) (a : Int) (h0 : 0 ≤ a) (h1 : a ≤ 1000000000) : ∃ zs : List Int, zs.length = l.length ∧ Marked zs a ∧ Ev (fun k => laws_markIntS.f k l a) (a + l.length, zs) := by
  obtain ⟨zs, z1, z2, z3⟩ := markIntS_at l hl a h0 h1 l.length 0 (by omega) l rfl (fun j hj => by omega)
  exact ⟨zs, z1, (fun j hj => z2 j (by omega)), by unfold laws_markIntS.f; simpa using z3⟩
theorem markIntS (l : List Int) (hl : l.length ≤ 1000000000) (a : Int) (h0 : 0 ≤ a) (h1 : a ≤ 1000000000) : ∃ zs : List Int, Ev (fun k => laws_markIntS.f k l a) (a + l.length, zs) ∧ Ev (fun k => laws_heldIntS.f k zs a) (a + l.length) := by
  obtain ⟨zs, z1, z2, z3⟩ := markIntS' l hl a h0 h1
  refine ⟨zs, z3, ?_⟩
  rw [← z1]
  exact heldIntS zs (by omega) a h0 h1 z2

theorem FnExactSplitStay : ∀ (y0 : S24) (a1 : Int), inv24 y0 → (Lit.int .i64 a1).wf = true → ∃ k, laws_FnExactSplitStay.f k y0.f0 y0.f1 y0.f2 a1 = some true := by
  intro y0 a1 hy _
  refine Ev.rounds ?_
  unfold laws_FnExactSplitStay.f
  obtain ⟨z, z1, _, z2⟩ := szCharge y0.f0 y0.f1 y0.f2 1048576 (by omega) (by omega) hy.2.1.1
  refine Ev.const z1 ?_
  by_cases hz : z < 0
  · exact Ev.pos hz (Ev.now _)
  · refine Ev.neg hz ?_
    have hn := z2 (by omega)
    have hm : (y0.f1.map convRateStep).length ≤ 1048577 := by simp; omega
    obtain ⟨r, h1, h2, h3⟩ := splitBoth y0.f0 (y0.f1.map convRateStep) hm y0.f2 a1
    have tv := toCharge y0.f0 y0.f1 y0.f2 hn
    have ar := eqCharge y0.f0 (y0.f1.map convRateStep) y0.f2 hm
    have er := eqIntS r.1 h3
    obtain ⟨m1, m2⟩ := markRateStepS (y0.f1.map convRateStep) hm 1 (by omega) (by omega)
    obtain ⟨n1, n2, n3⟩ := markIntS r.1 h3 1 (by omega) (by omega)
    have M : Ev (fun k => laws_markCharge.f k y0.f0 (y0.f1.map convRateStep) y0.f2 1) (1 + 2 * (y0.f1.map convRateStep).length, m1) := by unfold laws_markCharge.f; exact Ev.bind m2 (Ev.now _)
    refine Ev.bind tv (Ev.bind h1 (Ev.bind tv (Ev.bind h2 (Ev.bind er (Ev.pos rfl ?_)))))
    refine Ev.step (fun k => laws_FnExactSplitStay.j0.eq_2 ..) (Ev.neg (by simp) (Ev.bind tv (Ev.bind ar (Ev.pos rfl (Ev.bind M (Ev.neg (by omega) (Ev.bind er (Ev.pos rfl ?_))))))))
    refine Ev.step (fun k => laws_FnExactSplitStay.j1.eq_2 ..) (Ev.neg (by simp) (Ev.bind n2 (Ev.bind n3 (Ev.neg (by omega) (Ev.pos rfl (Ev.bind tv (Ev.bind h2 (Ev.bind er (Ev.pos rfl ?_)))))))))
    exact Ev.step (fun k => laws_FnExactSplitStay.j2.eq_2 ..) (Ev.neg (by simp) (Ev.bind n3 (Ev.neg (by omega) (Ev.pos rfl (Ev.now _)))))
end Go.Proofs.Ytgnmnjlkpdbepaa.Pure
