/- The program's RateOn returns what the reference's returns, for all arguments; the argument reads as it did. No condition. -/
import Derived.Test.YtgnmnjlkpdbepaaInvFnExactRateOn
import Derived.Test.YtgnmnjlkpdbepaaWHelp
namespace Go.Proofs.Ytgnmnjlkpdbepaa.Pure
open Go.RowKit Go.Proofs.YtgnmnjlkpdbepaaW.PrintWords Go.Proofs.YtgnmnjlkpdbepaaW.PrintLast Go.Proofs.YtgnmnjlkpdbepaaW.PrintMore Go.Proofs.YtgnmnjlkpdbepaaW.Help Go.Proofs.Ytgnmnjlkpdbepaa.PFnExactRateOn
set_option linter.unusedVariables false

def convRateStep (x : S76) : S56 := ⟨x.f0, x.f1⟩
theorem szRateStepS (l : List S76) (a : Int) (h0 : 0 ≤ a) (h1 : a ≤ 1048576) (hl : l.length ≤ 9223372036854775807) :
    laws_szRateStepS.f l a = some (if a < l.length then -1 else a - l.length) := by
  unfold laws_szRateStepS.f
  rw [w64 (by omega) (by omega)]
  by_cases h : a < l.length
  · rw [if_pos (by omega), if_pos h]
  · rw [if_neg (by omega), if_neg h]
/-- The size: below nought, or no more than a million steps. -/
theorem szCharge (f : Int) (l : List S76) (g a : Int) (h0 : 0 ≤ a) (h1 : a ≤ 1048576) (hl : l.length ≤ 9223372036854775807) :
    ∃ z : Int, laws_szCharge.f f l g a = some z ∧ z ≤ 1048576 ∧ (0 ≤ z → l.length ≤ 1048576) := by
  unfold laws_szCharge.f
  rw [szRateStepS l a h0 h1 hl]
  by_cases h : a < l.length
  · rw [if_pos h]
    exact ⟨-1, rfl, by omega, by omega⟩
  · rw [if_neg h]
    refine ⟨a - l.length, ?_, by omega, by omega⟩
    show (if a - (l.length : Int) < 0 then _ else _) = _
    rw [if_neg (by omega)]
theorem toRateStepS (l : List S76) (hl : l.length ≤ 1048576) : Ev (fun k => laws_toRateStepS.f k l) (l.map convRateStep) := by
  unfold laws_toRateStepS.f
  refine Ev.pos (by omega) (Ev.pos (by omega) ?_)
  simp only [Int.toNat_natCast]
  refine fill_ev l convRateStep z56 (fun k ys i => laws_toRateStepS.l0 k l ys i) ?_ ?_
  · intro i h ys hy r hr
    refine Ev.step (fun k => laws_toRateStepS.l0.eq_2 ..) ?_
    refine Ev.pos (by omega) (Ev.pos (by omega) ?_)
    refine Ev.const (a := (l[i].f0, l[i].f1)) (by simp [laws_toRateStep.f, rd_T76, h]) ?_
    refine Ev.pos (by omega) ?_
    rw [w64 (by omega) (by omega)]
    exact hr
  · intro ys hy
    refine Ev.step (fun k => laws_toRateStepS.l0.eq_2 ..) ?_
    exact Ev.neg (by omega) (Ev.now _)
theorem toCharge (f : Int) (l : List S76) (g : Int) (hl : l.length ≤ 1048576) : Ev (fun k => laws_toCharge.f k f l g) (f, l.map convRateStep, g) := by
  unfold laws_toCharge.f
  exact Ev.bind (toRateStepS l hl) (Ev.now _)
theorem eqRateStepS (l : List S56) (hl : l.length ≤ 1048577) : Ev (fun k => laws_eqRateStepS.f k l l) true := by
  unfold laws_eqRateStepS.f
  refine Ev.pos rfl ?_
  refine down_ev l.length (fun k i => laws_eqRateStepS.l0 k l l i) ?_ ?_
  · intro i h hr
    refine Ev.step (fun k => laws_eqRateStepS.l0.eq_2 ..) ?_
    refine Ev.pos (by omega) (Ev.pos (by omega) (Ev.pos (by omega) ?_))
    refine Ev.const (a := true) (by simp [laws_eqRateStep.f]) ?_
    refine Ev.pos rfl ?_
    rw [w64 (by omega) (by omega)]
    exact hr
  · refine Ev.step (fun k => laws_eqRateStepS.l0.eq_2 ..) ?_
    exact Ev.neg (by omega) (Ev.now _)
theorem eqCharge (f : Int) (l : List S56) (g : Int) (hl : l.length ≤ 1048577) : Ev (fun k => laws_eqCharge.f k f l g f l g) true := by
  unfold laws_eqCharge.f
  exact Ev.pos rfl (Ev.bind (eqRateStepS l hl) (Ev.pos rfl (Ev.pos rfl (Ev.now _))))

theorem l1In_eq (a b c : Int) : spec_l1In.f a b c = some (decide (b ≤ a ∧ a ≤ c)) := by
  unfold spec_l1In.f
  by_cases h : b ≤ a <;> simp [h]

theorem within_eq (a b c : Int) : impl_within.f a b c = some (decide (b ≤ a ∧ a ≤ c)) := by
  unfold impl_within.f
  by_cases h : b ≤ a <;> simp [h]

def stepOk (x : S56) : Prop := (1 ≤ x.f0 ∧ x.f0 ≤ 100) ∧ (0 ≤ x.f1 ∧ x.f1 ≤ 10000)
instance (x : S56) : Decidable (stepOk x) := by unfold stepOk; infer_instance
def Good (f : Int) (st : List S56) (g : Int) : Prop := (0 ≤ f ∧ f ≤ 30) ∧ (1 ≤ (st.length : Int) ∧ (st.length : Int) ≤ 6) ∧ (100 ≤ g ∧ g ≤ 300) ∧ ∀ j : Nat, j < st.length → stepOk (rd_T56 st j)
theorem notOk (x : S56) : impl_IsValidCharge_1.f x.f0 x.f1 = some (!decide (stepOk x)) := by
  unfold impl_IsValidCharge_1.f stepOk
  rw [within_eq, within_eq]
  by_cases h : 1 ≤ x.f0 ∧ x.f0 ≤ 100
  · simp only [h, Option.bind_some, true_and, and_self, decide_true, if_true]
  · simp only [h, Option.bind_some, false_and, decide_false]
    rfl
theorem goodLoop (st : List S56) (hl : st.length ≤ 1048577) (f g : Int) : ∀ d i : Nat, i + d = st.length → ∃ (b : Bool) (q : Int), Ev (fun k => spec_l22Good.l0 k i f st g) b ∧
    Ev (fun k => slices_IndexFunc_impl_RateStep.l0 k st st.length i) q ∧ (!decide (q ≥ 0)) = b ∧ (b = true ↔ ∀ j : Nat, i ≤ j → j < st.length → stepOk (rd_T56 st j)) := by
  intro d
  induction d with
  | zero =>
    intro i hi
    exact ⟨true, -1, Ev.step (fun k => spec_l22Good.l0.eq_2 ..) (Ev.neg (by omega) (Ev.now _)), Ev.step (fun k => slices_IndexFunc_impl_RateStep.l0.eq_2 ..) (Ev.neg (by omega) (Ev.now _)), rfl, ⟨fun _ j h1 h2 => absurd h2 (by omega), fun _ => rfl⟩⟩
  | succ d ih =>
    intro i hi
    have li : (i : Int) < st.length := by omega
    have l0 : (0 : Int) ≤ i := by omega
    have w1 : wrap64 ((i : Int) + 1) = ((i + 1 : Nat) : Int) := by rw [w64 (by omega) (by omega)]; rfl
    have no := notOk (rd_T56 st i)
    by_cases c : stepOk (rd_T56 st i)
    · obtain ⟨b, q, h1, h2, h3, h4⟩ := ih (i + 1) (by omega)
      rw [← w1] at h1 h2
      refine ⟨b, q, ?_, ?_, h3, h4.trans ⟨fun h j j1 j2 => ?_, fun h j j1 j2 => h j (by omega) j2⟩⟩
      · exact Ev.step (fun k => spec_l22Good.l0.eq_2 ..) (Ev.pos li (Ev.pos l0 (Ev.const (l1In_eq _ _ _) (Ev.pos (decide_eq_true c.1) (Ev.const (l1In_eq _ _ _) (Ev.pos (decide_eq_true c.2) h1))))))
      · refine Ev.step (fun k => slices_IndexFunc_impl_RateStep.l0.eq_2 ..) (Ev.pos li (Ev.pos l0 (Ev.pos li (Ev.const no (Ev.neg ?_ h2)))))
        rw [decide_eq_true c]
        exact fun h => by cases h
      · rcases Nat.lt_or_ge i j with q | q
        · exact h j q j2
        · obtain rfl : j = i := by omega
          exact c
    · refine ⟨false, i, ?_, ?_, by simp, ⟨fun h => (by cases h), fun h => absurd (h i (Nat.le_refl _) (by omega)) c⟩⟩
      · refine Ev.step (fun k => spec_l22Good.l0.eq_2 ..) (Ev.pos li (Ev.pos l0 (Ev.const (l1In_eq _ _ _) (Ev.ite (fun h1 => Ev.const (l1In_eq _ _ _) (Ev.neg (fun h2 => c ⟨of_decide_eq_true h1, of_decide_eq_true h2⟩) (Ev.now _))) (fun _ => Ev.now _)))))
      · refine Ev.step (fun k => slices_IndexFunc_impl_RateStep.l0.eq_2 ..) (Ev.pos li (Ev.pos l0 (Ev.pos li (Ev.const no (Ev.pos ?_ (Ev.now _))))))
        rw [decide_eq_false c]
        rfl
/-- Both tests of a charge. -/
theorem good (f : Int) (st : List S56) (hl : st.length ≤ 1048577) (g : Int) : ∃ b : Bool, Ev (fun k => spec_l22Good.f k f st g) b ∧ Ev (fun k => impl_IsValidCharge.f k f st g) b ∧ (b = true ↔ Good f st g) := by
  unfold spec_l22Good.f impl_IsValidCharge.f slices_ContainsFunc_impl_RateStep.f slices_IndexFunc_impl_RateStep.f
  have jt : Ev (fun k => spec_l22Good.j0 k true f st g) false := Ev.step (fun k => spec_l22Good.j0.eq_2 ..) (Ev.pos rfl (Ev.now _))
  by_cases c0 : 0 ≤ f ∧ f ≤ 30
  · by_cases c1 : 1 ≤ (st.length : Int) ∧ (st.length : Int) ≤ 6
    · by_cases c2 : 100 ≤ g ∧ g ≤ 300
      · obtain ⟨b, q, h1, h2, h3, h4⟩ := goodLoop st hl f g st.length 0 (by omega)
        refine ⟨b, Ev.const (l1In_eq _ _ _) (Ev.pos (decide_eq_true c0) (Ev.const (l1In_eq _ _ _) (Ev.pos (decide_eq_true c1) (Ev.const (l1In_eq _ _ _) (Ev.step (fun k => spec_l22Good.j0.eq_2 ..) (Ev.neg ?_ h1)))))),
          Ev.const (within_eq _ _ _) (Ev.pos (decide_eq_true c0) (Ev.const (within_eq _ _ _) (Ev.pos (decide_eq_true c1) (Ev.const (within_eq _ _ _) (Ev.pos (decide_eq_true c2) (Ev.bind (Ev.bind h2 (Ev.now _)) (Ev.eq (Ev.now _) h3))))))), h4.trans ⟨fun h => ⟨c0, c1, c2, fun j hj => h j (by omega) hj⟩, fun h j _ hj => h.2.2.2 j hj⟩⟩
        rw [decide_eq_true c2]
        exact fun h => by cases h
      · refine ⟨false, Ev.const (l1In_eq _ _ _) (Ev.pos (decide_eq_true c0) (Ev.const (l1In_eq _ _ _) (Ev.pos (decide_eq_true c1) (Ev.const (l1In_eq _ _ _) ?_)))),
          Ev.const (within_eq _ _ _) (Ev.pos (decide_eq_true c0) (Ev.const (within_eq _ _ _) (Ev.pos (decide_eq_true c1) (Ev.const (within_eq _ _ _) (Ev.neg (fun h => c2 (of_decide_eq_true h)) (Ev.now _)))))), ⟨fun h => (by cases h), fun h => absurd h.2.2.1 c2⟩⟩
        rw [decide_eq_false c2]
        exact jt
    · exact ⟨false, Ev.const (l1In_eq _ _ _) (Ev.pos (decide_eq_true c0) (Ev.const (l1In_eq _ _ _) (Ev.neg (fun h => c1 (of_decide_eq_true h)) jt))),
          Ev.const (within_eq _ _ _) (Ev.pos (decide_eq_true c0) (Ev.const (within_eq _ _ _) (Ev.neg (fun h => c1 (of_decide_eq_true h)) (Ev.now _)))), ⟨fun h => (by cases h), fun h => absurd h.2.1 c1⟩⟩
  · exact ⟨false, Ev.const (l1In_eq _ _ _) (Ev.neg (fun h => c0 (of_decide_eq_true h)) jt), Ev.const (within_eq _ _ _) (Ev.neg (fun h => c0 (of_decide_eq_true h)) (Ev.now _)), ⟨fun h => (by cases h), fun h => absurd h.1 c0⟩⟩

/-- How many steps on the day lies that is so far behind step i's first. -/
def stepOff (st : List S56) : Nat → Nat → Int → Nat
  | 0, _, _ => 0
  | d + 1, i, left => if left ≤ (rd_T56 st i).f0 then 0 else stepOff st d (i + 1) (left - (rd_T56 st i).f0) + 1
theorem stepOff_le (st : List S56) : ∀ d i : Nat, ∀ left : Int, stepOff st d i left ≤ d := by
  intro d
  induction d with
  | zero => intro i left; exact Nat.le_refl _
  | succ d ih =>
    intro i left
    rw [show stepOff st (d + 1) i left = if left ≤ (rd_T56 st i).f0 then 0 else stepOff st d (i + 1) (left - (rd_T56 st i).f0) + 1 from rfl]
    have := ih (i + 1) (left - (rd_T56 st i).f0)
    split <;> omega
/-- The step of a day. -/
def stepDay (f : Int) (st : List S56) (day : Int) : Int := if day ≤ f then -1 else (stepOff st (st.length - 1) 0 (day - f) : Int)
theorem stepDay_lt (f : Int) (st : List S56) (g : Int) (h : Good f st g) (day : Int) : -1 ≤ stepDay f st day ∧ stepDay f st day < st.length := by
  have := h.2.1
  have := stepOff_le st (st.length - 1) 0 (day - f)
  unfold stepDay
  split <;> omega
theorem specStep (f : Int) (st : List S56) (g : Int) (h : Good f st g) (day : Int) (d1 : day ≤ 401) : Ev (fun k => spec_l22Step.f k f st g day) (stepDay f st day) := by
  obtain ⟨h0, h1, h2, h3⟩ := h
  have main : ∀ d i : Nat, i + 1 + d = st.length → ∀ last : Int, 0 ≤ last → last ≤ 30 + 100 * i → Ev (fun k => spec_l22Step.l0 k day last i f st g) ((i + stepOff st d i (day - last) : Nat) : Int) := by
    intro d
    induction d with
    | zero =>
      intro i hi last l0 l1
      have w1 : wrap64 ((i : Int) + 1) = ((i + 1 : Nat) : Int) := by rw [w64 (by omega) (by omega)]; rfl
      refine Ev.step (fun k => spec_l22Step.l0.eq_2 ..) (Ev.neg (by rw [w1]; omega) (Ev.eq (Ev.now _) ?_))
      rw [w64 (by omega) (by omega), show stepOff st 0 i (day - last) = 0 from rfl]
      omega
    | succ d ih =>
      intro i hi last l0 l1
      obtain ⟨⟨o1, o2⟩, _⟩ := h3 i (by omega)
      have w1 : wrap64 ((i : Int) + 1) = ((i + 1 : Nat) : Int) := by rw [w64 (by omega) (by omega)]; rfl
      have w2 : wrap64 (last + (rd_T56 st i).f0) = last + (rd_T56 st i).f0 := w64 (by omega) (by omega)
      rw [show stepOff st (d + 1) i (day - last) = if day - last ≤ (rd_T56 st i).f0 then 0 else stepOff st d (i + 1) (day - last - (rd_T56 st i).f0) + 1 from rfl]
      refine Ev.step (fun k => spec_l22Step.l0.eq_2 ..) (Ev.pos (by rw [w1]; omega) (Ev.pos (by omega) (Ev.pos (by omega) ?_)))
      by_cases c : day ≤ last + (rd_T56 st i).f0
      · rw [if_pos (by omega)]
        exact Ev.pos (by rw [w2]; exact c) (Ev.now _)
      · rw [if_neg (by omega)]
        have := ih (i + 1) (by omega) (last + (rd_T56 st i).f0) (by omega) (by omega)
        rw [← w1, ← w2] at this
        refine Ev.neg (by rw [w2]; exact c) (Ev.eq this ?_)
        rw [w2, show day - (last + (rd_T56 st i).f0) = day - last - (rd_T56 st i).f0 by omega]
        omega
  unfold spec_l22Step.f stepDay
  by_cases c : day ≤ f
  · rw [if_pos c]
    exact Ev.pos c (Ev.now _)
  · rw [if_neg c]
    exact Ev.neg c (Ev.eq (main (st.length - 1) 0 (by omega) f h0.1 (by omega)) (by simp))

theorem implStep (f : Int) (st : List S56) (g : Int) (h : Good f st g) (day : Int) (d0 : 0 ≤ day) (d1 : day ≤ 401) : Ev (fun k => impl_stepOn.f k f st g day) (stepDay f st day) := by
  obtain ⟨h0, h1, h2, h3⟩ := h
  have main : ∀ d i : Nat, i + 1 + d = st.length → ∀ left : Int, 0 < left → left ≤ 401 → Ev (fun k => impl_stepOn.l0 k left st st.length i f st g) ((i + stepOff st d i left : Nat) : Int) := by
    intro d
    induction d with
    | zero =>
      intro i hi left l0 l1
      obtain ⟨⟨o1, o2⟩, _⟩ := h3 i (by omega)
      have w1 : wrap64 ((i : Int) + 1) = ((i + 1 : Nat) : Int) := by rw [w64 (by omega) (by omega)]; rfl
      refine Ev.step (fun k => impl_stepOn.l0.eq_2 ..) (Ev.pos (by omega) (Ev.pos (by omega) (Ev.pos (by omega) (Ev.ite (fun _ => Ev.now _) (fun _ => ?_)))))
      rw [w1]
      refine Ev.step (fun k => impl_stepOn.l0.eq_2 ..) (Ev.neg (by omega) (Ev.eq (Ev.now _) ?_))
      rw [w64 (by omega) (by omega), show stepOff st 0 i left = 0 from rfl]
      omega
    | succ d ih =>
      intro i hi left l0 l1
      obtain ⟨⟨o1, o2⟩, _⟩ := h3 i (by omega)
      have w1 : wrap64 ((i : Int) + 1) = ((i + 1 : Nat) : Int) := by rw [w64 (by omega) (by omega)]; rfl
      have w2 : wrap64 (left - (rd_T56 st i).f0) = left - (rd_T56 st i).f0 := w64 (by omega) (by omega)
      rw [show stepOff st (d + 1) i left = if left ≤ (rd_T56 st i).f0 then 0 else stepOff st d (i + 1) (left - (rd_T56 st i).f0) + 1 from rfl]
      refine Ev.step (fun k => impl_stepOn.l0.eq_2 ..) (Ev.pos (by omega) (Ev.pos (by omega) (Ev.pos (by omega) ?_)))
      by_cases c : left ≤ (rd_T56 st i).f0
      · rw [if_pos c]
        exact Ev.pos (by rw [w2]; omega) (Ev.now _)
      · rw [if_neg c]
        have := ih (i + 1) (by omega) (left - (rd_T56 st i).f0) (by omega) (by omega)
        rw [← w1, ← w2] at this
        refine Ev.neg (by rw [w2]; omega) (Ev.eq this ?_)
        rw [w2]
        omega
  unfold impl_stepOn.f stepDay
  have w0 : wrap64 (day - f) = day - f := w64 (by omega) (by omega)
  by_cases c : day ≤ f
  · rw [if_pos c]
    exact Ev.pos (by rw [w0]; omega) (Ev.now _)
  · rw [if_neg c]
    refine Ev.neg (by rw [w0]; omega) ?_
    rw [w0]
    exact Ev.eq (main (st.length - 1) 0 (by omega) (day - f) (by omega) (by omega)) (by simp)


/-- The rate of a day. -/
def rateDay (f : Int) (st : List S56) (day : Int) : Int := if stepDay f st day < 0 then 0 else (rd_T56 st (stepDay f st day)).f1
theorem specRate (f : Int) (st : List S56) (g : Int) (h : Good f st g) (day : Int) (d1 : day ≤ 401) : Ev (fun k => spec_l22Rate.f k f st g day) (rateDay f st day) := by
  have lt := stepDay_lt f st g h day
  unfold spec_l22Rate.f
  refine Ev.bind (specStep f st g h day d1) ?_
  by_cases c : stepDay f st day < 0
  · exact Ev.pos c (Ev.eq (Ev.now _) (show (0 : Int) = rateDay f st day from (if_pos c).symm))
  · exact Ev.neg c (Ev.pos (by omega) (Ev.pos (by omega) (Ev.eq (Ev.now _) (show (rd_T56 st (stepDay f st day)).f1 = rateDay f st day from (if_neg c).symm))))

/-- Both find the rate of a day. -/
theorem rateBoth (f : Int) (st : List S56) (hl : st.length ≤ 1048577) (g day : Int) : ∃ r : Int × Bool, Ev (fun k => spec_RateOn.f k f st g day) r ∧ Ev (fun k => impl_RateOn.f k f st g day) r := by
  obtain ⟨b, h1, h2, h3⟩ := good f st hl g
  unfold spec_RateOn.f impl_RateOn.f impl_StepOn.f
  by_cases c0 : b = true
  · have hg := h3.1 c0
    by_cases c1 : 1 ≤ day ∧ day ≤ 400
    · have im := implStep f st g hg day (by omega) (by omega)
      have lt := stepDay_lt f st g hg day
      have sp := specRate f st g hg day (by omega)
      refine ⟨(rateDay f st day, true), Ev.bind h1 (Ev.pos c0 (Ev.const (l1In_eq _ _ _) (Ev.pos (decide_eq_true c1) (Ev.bind sp (Ev.now _))))), Ev.bind (Ev.bind h2 (Ev.pos c0 (Ev.const (within_eq _ _ _) (Ev.pos (decide_eq_true c1) (Ev.bind im (Ev.now _)))))) (Ev.pos rfl ?_)⟩
      by_cases c : stepDay f st day < 0
      · exact Ev.pos c (Ev.eq (Ev.now _) (by rw [show rateDay f st day = 0 from if_pos c]))
      · exact Ev.neg c (Ev.pos (by omega) (Ev.pos (by omega) (Ev.eq (Ev.now _) (by rw [show rateDay f st day = (rd_T56 st (stepDay f st day)).f1 from if_neg c]))))
    · exact ⟨_, Ev.bind h1 (Ev.pos c0 (Ev.const (l1In_eq _ _ _) (Ev.neg (fun h => c1 (of_decide_eq_true h)) (Ev.now _)))), Ev.bind (Ev.bind h2 (Ev.pos c0 (Ev.const (within_eq _ _ _) (Ev.neg (fun h => c1 (of_decide_eq_true h)) (Ev.now _))))) (Ev.neg (by simp) (Ev.now _))⟩
  · exact ⟨_, Ev.bind h1 (Ev.neg c0 (Ev.now _)), Ev.bind (Ev.bind h2 (Ev.neg c0 (Ev.now _))) (Ev.neg (by simp) (Ev.now _))⟩

theorem FnExactRateOn : ∀ (y0 : S24) (a1 : Int), inv24 y0 → (Lit.int .i64 a1).wf = true → ∃ k, laws_FnExactRateOn.f k y0.f0 y0.f1 y0.f2 a1 = some true := by
  intro y0 a1 hy _
  refine Ev.rounds ?_
  unfold laws_FnExactRateOn.f
  obtain ⟨z, z1, _, z2⟩ := szCharge y0.f0 y0.f1 y0.f2 1048576 (by omega) (by omega) hy.2.1.1
  refine Ev.const z1 ?_
  by_cases hz : z < 0
  · exact Ev.pos hz (Ev.now _)
  · refine Ev.neg hz ?_
    have hn := z2 (by omega)
    have hm : (y0.f1.map convRateStep).length ≤ 1048577 := by simp; omega
    obtain ⟨r, h1, h2⟩ := rateBoth y0.f0 (y0.f1.map convRateStep) hm y0.f2 a1
    have tv := toCharge y0.f0 y0.f1 y0.f2 hn
    refine Ev.bind tv (Ev.bind h1 (Ev.bind tv (Ev.bind h2 (Ev.pos rfl ?_))))
    refine Ev.step (fun k => laws_FnExactRateOn.j0.eq_2 ..) (Ev.neg (by simp) ?_)
    exact Ev.bind tv (Ev.bind (eqCharge _ _ _ hm) (Ev.pos rfl (Ev.now _)))
end Go.Proofs.Ytgnmnjlkpdbepaa.Pure
