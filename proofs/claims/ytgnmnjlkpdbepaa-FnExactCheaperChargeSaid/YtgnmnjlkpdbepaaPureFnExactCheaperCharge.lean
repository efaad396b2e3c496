/- The program's CheaperCharge returns what the reference's returns, for all arguments; the arguments read as they did. No condition. -/
import Derived.Test.YtgnmnjlkpdbepaaInvFnExactCheaperCharge
import Derived.Test.YtgnmnjlkpdbepaaWHelp
namespace Go.Proofs.Ytgnmnjlkpdbepaa.Pure
open Go.RowKit Go.Proofs.YtgnmnjlkpdbepaaW.PrintWords Go.Proofs.YtgnmnjlkpdbepaaW.PrintLast Go.Proofs.YtgnmnjlkpdbepaaW.PrintMore Go.Proofs.YtgnmnjlkpdbepaaW.Help Go.Proofs.Ytgnmnjlkpdbepaa.PFnExactCheaperCharge
set_option linter.unusedVariables false

def convRateStep (x : S76) : S56 := ⟨x.f0, x.f1⟩
theorem szRateStepS (l : List S76) (a : Int) (h0 : 0 ≤ a) (h1 : a ≤ 1048576) (hl : l.length ≤ 9223372036854775807) :
    laws_szRateStepS.f l a = some (if a < l.length then -1 else a - l.length) := by
  unfold laws_szRateStepS.f
  rw [w64 (by omega) (by omega)]
  by_cases h : a < l.length
  · rw [if_pos (by omega), if_pos h]
  · rw [if_neg (by omega), if_neg h]
/-- The size: below nought, or no more than a million steps. -/
theorem szCharge (f : Int) (l : List S76) (g a : Int) (h0 : 0 ≤ a) (h1 : a ≤ 1048576) (hl : l.length ≤ 9223372036854775807) :
    ∃ z : Int, laws_szCharge.f f l g a = some z ∧ z ≤ 1048576 ∧ (0 ≤ z → l.length ≤ 1048576) := by
  unfold laws_szCharge.f
  rw [szRateStepS l a h0 h1 hl]
  by_cases h : a < l.length
  · rw [if_pos h]
    exact ⟨-1, rfl, by omega, by omega⟩
  · rw [if_neg h]
    refine ⟨a - l.length, ?_, by omega, by omega⟩
    show (if a - (l.length : Int) < 0 then _ else _) = _
    rw [if_neg (by omega)]
theorem toRateStepS (l : List S76) (hl : l.length ≤ 1048576) : Ev (fun k => laws_toRateStepS.f k l) (l.map convRateStep) := by
  unfold laws_toRateStepS.f
  refine Ev.pos (by omega) (Ev.pos (by omega) ?_)
  simp only [Int.toNat_natCast]
  refine fill_ev l convRateStep z56 (fun k ys i => laws_toRateStepS.l0 k l ys i) ?_ ?_
  · intro i h ys hy r hr
    refine Ev.step (fun k => laws_toRateStepS.l0.eq_2 ..) ?_
    refine Ev.pos (by omega) (Ev.pos (by omega) ?_)
    refine Ev.const (a := (l[i].f0, l[i].f1)) (by simp [laws_toRateStep.f, rd_T76, h]) ?_
    refine Ev.pos (by omega) ?_
    rw [w64 (by omega) (by omega)]
    exact hr
  · intro ys hy
    refine Ev.step (fun k => laws_toRateStepS.l0.eq_2 ..) ?_
    exact Ev.neg (by omega) (Ev.now _)
theorem toCharge (f : Int) (l : List S76) (g : Int) (hl : l.length ≤ 1048576) : Ev (fun k => laws_toCharge.f k f l g) (f, l.map convRateStep, g) := by
  unfold laws_toCharge.f
  exact Ev.bind (toRateStepS l hl) (Ev.now _)
theorem eqRateStepS (l : List S56) (hl : l.length ≤ 1048577) : Ev (fun k => laws_eqRateStepS.f k l l) true := by
  unfold laws_eqRateStepS.f
  refine Ev.pos rfl ?_
  refine down_ev l.length (fun k i => laws_eqRateStepS.l0 k l l i) ?_ ?_
  · intro i h hr
    refine Ev.step (fun k => laws_eqRateStepS.l0.eq_2 ..) ?_
    refine Ev.pos (by omega) (Ev.pos (by omega) (Ev.pos (by omega) ?_))
    refine Ev.const (a := true) (by simp [laws_eqRateStep.f]) ?_
    refine Ev.pos rfl ?_
    rw [w64 (by omega) (by omega)]
    exact hr
  · refine Ev.step (fun k => laws_eqRateStepS.l0.eq_2 ..) ?_
    exact Ev.neg (by omega) (Ev.now _)
theorem eqCharge (f : Int) (l : List S56) (g : Int) (hl : l.length ≤ 1048577) : Ev (fun k => laws_eqCharge.f k f l g f l g) true := by
  unfold laws_eqCharge.f
  exact Ev.pos rfl (Ev.bind (eqRateStepS l hl) (Ev.pos rfl (Ev.pos rfl (Ev.now _))))

theorem l1In_eq (a b c : Int) : spec_l1In.f a b c = some (decide (b ≤ a ∧ a ≤ c)) := by
  unfold spec_l1In.f
  by_cases h : b ≤ a <;> simp [h]

theorem within_eq (a b c : Int) : impl_within.f a b c = some (decide (b ≤ a ∧ a ≤ c)) := by
  unfold impl_within.f
  by_cases h : b ≤ a <;> simp [h]

def stepOk (x : S56) : Prop := (1 ≤ x.f0 ∧ x.f0 ≤ 100) ∧ (0 ≤ x.f1 ∧ x.f1 ≤ 10000)
instance (x : S56) : Decidable (stepOk x) := by unfold stepOk; infer_instance
def Good (f : Int) (st : List S56) (g : Int) : Prop := (0 ≤ f ∧ f ≤ 30) ∧ (1 ≤ (st.length : Int) ∧ (st.length : Int) ≤ 6) ∧ (100 ≤ g ∧ g ≤ 300) ∧ ∀ j : Nat, j < st.length → stepOk (rd_T56 st j)
theorem notOk (x : S56) : impl_IsValidCharge_1.f x.f0 x.f1 = some (!decide (stepOk x)) := by
  unfold impl_IsValidCharge_1.f stepOk
  rw [within_eq, within_eq]
  by_cases h : 1 ≤ x.f0 ∧ x.f0 ≤ 100
  · simp only [h, Option.bind_some, true_and, and_self, decide_true, if_true]
  · simp only [h, Option.bind_some, false_and, decide_false]
    rfl
theorem goodLoop (st : List S56) (hl : st.length ≤ 1048577) (f g : Int) : ∀ d i : Nat, i + d = st.length → ∃ (b : Bool) (q : Int), Ev (fun k => spec_l22Good.l0 k i f st g) b ∧
    Ev (fun k => slices_IndexFunc_impl_RateStep.l0 k st st.length i) q ∧ (!decide (q ≥ 0)) = b ∧ (b = true ↔ ∀ j : Nat, i ≤ j → j < st.length → stepOk (rd_T56 st j)) := by
  intro d
  induction d with
  | zero =>
    intro i hi
    exact ⟨true, -1, Ev.step (fun k => spec_l22Good.l0.eq_2 ..) (Ev.neg (by omega) (Ev.now _)), Ev.step (fun k => slices_IndexFunc_impl_RateStep.l0.eq_2 ..) (Ev.neg (by omega) (Ev.now _)), rfl, ⟨fun _ j h1 h2 => absurd h2 (by omega), fun _ => rfl⟩⟩
  | succ d ih =>
    intro i hi
    have li : (i : Int) < st.length := by omega
    have l0 : (0 : Int) ≤ i := by omega
    have w1 : wrap64 ((i : Int) + 1) = ((i + 1 : Nat) : Int) := by rw [w64 (by omega) (by omega)]; rfl
    have no := notOk (rd_T56 st i)
    by_cases c : stepOk (rd_T56 st i)
    · obtain ⟨b, q, h1, h2, h3, h4⟩ := ih (i + 1) (by omega)
      rw [← w1] at h1 h2
      refine ⟨b, q, ?_, ?_, h3, h4.trans ⟨fun h j j1 j2 => ?_, fun h j j1 j2 => h j (by omega) j2⟩⟩
      · exact Ev.step (fun k => spec_l22Good.l0.eq_2 ..) (Ev.pos li (Ev.pos l0 (Ev.const (l1In_eq _ _ _) (Ev.pos (decide_eq_true c.1) (Ev.const (l1In_eq _ _ _) (Ev.pos (decide_eq_true c.2) h1))))))
      · refine Ev.step (fun k => slices_IndexFunc_impl_RateStep.l0.eq_2 ..) (Ev.pos li (Ev.pos l0 (Ev.pos li (Ev.const no (Ev.neg ?_ h2)))))
        rw [decide_eq_true c]
        exact fun h => by cases h
      · rcases Nat.lt_or_ge i j with q | q
        · exact h j q j2
        · obtain rfl : j = i := by omega
          exact c
    · refine ⟨false, i, ?_, ?_, by simp, ⟨fun h => (by cases h), fun h => absurd (h i (Nat.le_refl _) (by omega)) c⟩⟩
      · refine Ev.step (fun k => spec_l22Good.l0.eq_2 ..) (Ev.pos li (Ev.pos l0 (Ev.const (l1In_eq _ _ _) (Ev.ite (fun h1 => Ev.const (l1In_eq _ _ _) (Ev.neg (fun h2 => c ⟨of_decide_eq_true h1, of_decide_eq_true h2⟩) (Ev.now _))) (fun _ => Ev.now _)))))
      · refine Ev.step (fun k => slices_IndexFunc_impl_RateStep.l0.eq_2 ..) (Ev.pos li (Ev.pos l0 (Ev.pos li (Ev.const no (Ev.pos ?_ (Ev.now _))))))
        rw [decide_eq_false c]
        rfl
/-- Both tests of a charge. -/
theorem good (f : Int) (st : List S56) (hl : st.length ≤ 1048577) (g : Int) : ∃ b : Bool, Ev (fun k => spec_l22Good.f k f st g) b ∧ Ev (fun k => impl_IsValidCharge.f k f st g) b ∧ (b = true ↔ Good f st g) := by
  unfold spec_l22Good.f impl_IsValidCharge.f slices_ContainsFunc_impl_RateStep.f slices_IndexFunc_impl_RateStep.f
  have jt : Ev (fun k => spec_l22Good.j0 k true f st g) false := Ev.step (fun k => spec_l22Good.j0.eq_2 ..) (Ev.pos rfl (Ev.now _))
  by_cases c0 : 0 ≤ f ∧ f ≤ 30
  · by_cases c1 : 1 ≤ (st.length : Int) ∧ (st.length : Int) ≤ 6
    · by_cases c2 : 100 ≤ g ∧ g ≤ 300
      · obtain ⟨b, q, h1, h2, h3, h4⟩ := goodLoop st hl f g st.length 0 (by omega)
        refine ⟨b, Ev.const (l1In_eq _ _ _) (Ev.pos (decide_eq_true c0) (Ev.const (l1In_eq _ _ _) (Ev.pos (decide_eq_true c1) (Ev.const (l1In_eq _ _ _) (Ev.step (fun k => spec_l22Good.j0.eq_2 ..) (Ev.neg ?_ h1)))))),
          Ev.const (within_eq _ _ _) (Ev.pos (decide_eq_true c0) (Ev.const (within_eq _ _ _) (Ev.pos (decide_eq_true c1) (Ev.const (within_eq _ _ _) (Ev.pos (decide_eq_true c2) (Ev.bind (Ev.bind h2 (Ev.now _)) (Ev.eq (Ev.now _) h3))))))), h4.trans ⟨fun h => ⟨c0, c1, c2, fun j hj => h j (by omega) hj⟩, fun h j _ hj => h.2.2.2 j hj⟩⟩
        rw [decide_eq_true c2]
        exact fun h => by cases h
      · refine ⟨false, Ev.const (l1In_eq _ _ _) (Ev.pos (decide_eq_true c0) (Ev.const (l1In_eq _ _ _) (Ev.pos (decide_eq_true c1) (Ev.const (l1In_eq _ _ _) ?_)))),
          Ev.const (within_eq _ _ _) (Ev.pos (decide_eq_true c0) (Ev.const (within_eq _ _ _) (Ev.pos (decide_eq_true c1) (Ev.const (within_eq _ _ _) (Ev.neg (fun h => c2 (of_decide_eq_true h)) (Ev.now _)))))), ⟨fun h => (by cases h), fun h => absurd h.2.2.1 c2⟩⟩
        rw [decide_eq_false c2]
        exact jt
    · exact ⟨false, Ev.const (l1In_eq _ _ _) (Ev.pos (decide_eq_true c0) (Ev.const (l1In_eq _ _ _) (Ev.neg (fun h => c1 (of_decide_eq_true h)) jt))),
          Ev.const (within_eq _ _ _) (Ev.pos (decide_eq_true c0) (Ev.const (within_eq _ _ _) (Ev.neg (fun h => c1 (of_decide_eq_true h)) (Ev.now _)))), ⟨fun h => (by cases h), fun h => absurd h.2.1 c1⟩⟩
  · exact ⟨false, Ev.const (l1In_eq _ _ _) (Ev.neg (fun h => c0 (of_decide_eq_true h)) jt), Ev.const (within_eq _ _ _) (Ev.neg (fun h => c0 (of_decide_eq_true h)) (Ev.now _)), ⟨fun h => (by cases h), fun h => absurd h.1 c0⟩⟩

/-- How many steps on the day lies that is so far behind step i's first. -/
def stepOff (st : List S56) : Nat → Nat → Int → Nat
  | 0, _, _ => 0
  | d + 1, i, left => if left ≤ (rd_T56 st i).f0 then 0 else stepOff st d (i + 1) (left - (rd_T56 st i).f0) + 1
theorem stepOff_le (st : List S56) : ∀ d i : Nat, ∀ left : Int, stepOff st d i left ≤ d := by
  intro d
  induction d with
  | zero => intro i left; exact Nat.le_refl _
  | succ d ih =>
    intro i left
    rw [show stepOff st (d + 1) i left = if left ≤ (rd_T56 st i).f0 then 0 else stepOff st d (i + 1) (left - (rd_T56 st i).f0) + 1 from rfl]
    have := ih (i + 1) (left - (rd_T56 st i).f0)
    split <;> omega
/-- The step of a day. -/
def stepDay (f : Int) (st : List S56) (day : Int) : Int := if day ≤ f then -1 else (stepOff st (st.length - 1) 0 (day - f) : Int)
theorem stepDay_lt (f : Int) (st : List S56) (g : Int) (h : Good f st g) (day : Int) : -1 ≤ stepDay f st day ∧ stepDay f st day < st.length := by
  have := h.2.1
  have := stepOff_le st (st.length - 1) 0 (day - f)
  unfold stepDay
  split <;> omega
theorem specStep (f : Int) (st : List S56) (g : Int) (h : Good f st g) (day : Int) (d1 : day ≤ 401) : Ev (fun k => spec_l22Step.f k f st g day) (stepDay f st day) := by
  obtain ⟨h0, h1, h2, h3⟩ := h
  have main : ∀ d i : Nat, i + 1 + d = st.length → ∀ last : Int, 0 ≤ last → last ≤ 30 + 100 * i → Ev (fun k => spec_l22Step.l0 k day last i f st g) ((i + stepOff st d i (day - last) : Nat) : Int) := by
    intro d
    induction d with
    | zero =>
      intro i hi last l0 l1
      have w1 : wrap64 ((i : Int) + 1) = ((i + 1 : Nat) : Int) := by rw [w64 (by omega) (by omega)]; rfl
      refine Ev.step (fun k => spec_l22Step.l0.eq_2 ..) (Ev.neg (by rw [w1]; omega) (Ev.eq (Ev.now _) ?_))
      rw [w64 (by omega) (by omega), show stepOff st 0 i (day - last) = 0 from rfl]
      omega
    | succ d ih =>
      intro i hi last l0 l1
      obtain ⟨⟨o1, o2⟩, _⟩ := h3 i (by omega)
      have w1 : wrap64 ((i : Int) + 1) = ((i + 1 : Nat) : Int) := by rw [w64 (by omega) (by omega)]; rfl
      have w2 : wrap64 (last + (rd_T56 st i).f0) = last + (rd_T56 st i).f0 := w64 (by omega) (by omega)
      rw [show stepOff st (d + 1) i (day - last) = if day - last ≤ (rd_T56 st i).f0 then 0 else stepOff st d (i + 1) (day - last - (rd_T56 st i).f0) + 1 from rfl]
      refine Ev.step (fun k => spec_l22Step.l0.eq_2 ..) (Ev.pos (by rw [w1]; omega) (Ev.pos (by omega) (Ev.pos (by omega) ?_)))
      by_cases c : day ≤ last + (rd_T56 st i).f0
      · rw [if_pos (by omega)]
        exact Ev.pos (by rw [w2]; exact c) (Ev.now _)
      · rw [if_neg (by omega)]
        have := ih (i + 1) (by omega) (last + (rd_T56 st i).f0) (by omega) (by omega)
        rw [← w1, ← w2] at this
        refine Ev.neg (by rw [w2]; exact c) (Ev.eq this ?_)
        rw [w2, show day - (last + (rd_T56 st i).f0) = day - last - (rd_T56 st i).f0 by omega]
        omega
  unfold spec_l22Step.f stepDay
  by_cases c : day ≤ f
  · rw [if_pos c]
    exact Ev.pos c (Ev.now _)
  · rw [if_neg c]
    exact Ev.neg c (Ev.eq (main (st.length - 1) 0 (by omega) f h0.1 (by omega)) (by simp))

/-- The rate of a day. -/
def rateDay (f : Int) (st : List S56) (day : Int) : Int := if stepDay f st day < 0 then 0 else (rd_T56 st (stepDay f st day)).f1
theorem specRate (f : Int) (st : List S56) (g : Int) (h : Good f st g) (day : Int) (d1 : day ≤ 401) : Ev (fun k => spec_l22Rate.f k f st g day) (rateDay f st day) := by
  have lt := stepDay_lt f st g h day
  unfold spec_l22Rate.f
  refine Ev.bind (specStep f st g h day d1) ?_
  by_cases c : stepDay f st day < 0
  · exact Ev.pos c (Ev.eq (Ev.now _) (show (0 : Int) = rateDay f st day from (if_pos c).symm))
  · exact Ev.neg c (Ev.pos (by omega) (Ev.pos (by omega) (Ev.eq (Ev.now _) (show (rd_T56 st (stepDay f st day)).f1 = rateDay f st day from (if_neg c).symm))))

/-- What so many days from step i's first on cost. -/
def payAt (st : List S56) : Nat → Nat → Int → Int
  | 0, i, left => left * (rd_T56 st i).f1
  | d + 1, i, left => mn left (rd_T56 st i).f0 * (rd_T56 st i).f1 + payAt st d (i + 1) (left - mn left (rd_T56 st i).f0)
theorem payAt_zero (st : List S56) (h3 : ∀ j : Nat, j < st.length → stepOk (rd_T56 st j)) : ∀ d i : Nat, i + 1 + d = st.length → payAt st d i 0 = 0 := by
  intro d
  induction d with
  | zero => intro i _; exact Int.zero_mul _
  | succ d ih =>
    intro i hi
    have := (h3 i (by omega)).1
    have e : mn 0 (rd_T56 st i).f0 = 0 := if_neg (by omega)
    rw [show payAt st (d + 1) i 0 = mn 0 (rd_T56 st i).f0 * (rd_T56 st i).f1 + payAt st d (i + 1) (0 - mn 0 (rd_T56 st i).f0) from rfl, e, Int.zero_mul, Int.sub_self, ih (i + 1) (by omega)]
    rfl
theorem payAt_bounds (st : List S56) (h3 : ∀ j : Nat, j < st.length → stepOk (rd_T56 st j)) : ∀ d i : Nat, i + 1 + d = st.length → ∀ left : Int, 0 ≤ left → 0 ≤ payAt st d i left ∧ payAt st d i left ≤ left * 10000 := by
  intro d
  induction d with
  | zero =>
    intro i hi left l0
    obtain ⟨_, o1, o2⟩ := h3 i (by omega)
    exact ⟨Int.mul_nonneg l0 o1, Int.mul_le_mul_of_nonneg_left o2 l0⟩
  | succ d ih =>
    intro i hi left l0
    obtain ⟨⟨p1, p2⟩, o1, o2⟩ := h3 i (by omega)
    have m : 0 ≤ mn left (rd_T56 st i).f0 ∧ mn left (rd_T56 st i).f0 ≤ left := by unfold mn; split <;> omega
    obtain ⟨a, b⟩ := ih (i + 1) (by omega) (left - mn left (rd_T56 st i).f0) (by omega)
    have c := Int.mul_nonneg m.1 o1
    have e := Int.mul_le_mul_of_nonneg_left o2 m.1
    rw [show payAt st (d + 1) i left = mn left (rd_T56 st i).f0 * (rd_T56 st i).f1 + payAt st d (i + 1) (left - mn left (rd_T56 st i).f0) from rfl]
    generalize mn left (rd_T56 st i).f0 * (rd_T56 st i).f1 = u at *
    generalize mn left (rd_T56 st i).f0 = v at *
    generalize payAt st d (i + 1) (left - v) = w at *
    omega
theorem payAt_succ (st : List S56) (h3 : ∀ j : Nat, j < st.length → stepOk (rd_T56 st j)) : ∀ d i : Nat, i + 1 + d = st.length → ∀ left : Int, 0 ≤ left →
    payAt st d i (left + 1) = payAt st d i left + (rd_T56 st ((i + stepOff st d i (left + 1) : Nat) : Int)).f1 := by
  intro d
  induction d with
  | zero =>
    intro i hi left l0
    show (left + 1) * _ = left * _ + _
    rw [Int.add_mul, Int.one_mul]
    rfl
  | succ d ih =>
    intro i hi left l0
    obtain ⟨⟨p1, p2⟩, o1, o2⟩ := h3 i (by omega)
    have E : ∀ x : Int, payAt st (d + 1) i x = mn x (rd_T56 st i).f0 * (rd_T56 st i).f1 + payAt st d (i + 1) (x - mn x (rd_T56 st i).f0) := fun _ => rfl
    have O : stepOff st (d + 1) i (left + 1) = if left + 1 ≤ (rd_T56 st i).f0 then 0 else stepOff st d (i + 1) (left + 1 - (rd_T56 st i).f0) + 1 := rfl
    rw [E, E, O]
    by_cases c : left + 1 ≤ (rd_T56 st i).f0
    · have e1 : mn (left + 1) (rd_T56 st i).f0 = left + 1 := if_neg (by omega)
      have e2 : mn left (rd_T56 st i).f0 = left := if_neg (by omega)
      rw [e1, e2, if_pos c, Int.sub_self, Int.sub_self, payAt_zero st h3 d (i + 1) (by omega), Int.add_mul, Int.one_mul, Nat.add_zero]
      omega
    · have e1 : mn (left + 1) (rd_T56 st i).f0 = (rd_T56 st i).f0 := if_pos (by omega)
      have e2 : mn left (rd_T56 st i).f0 = (rd_T56 st i).f0 := by unfold mn; split <;> omega
      have h := ih (i + 1) (by omega) (left - (rd_T56 st i).f0) (by omega)
      have e3 : left + 1 - (rd_T56 st i).f0 = left - (rd_T56 st i).f0 + 1 := by omega
      rw [e1, e2, if_neg c, e3, h, show i + (stepOff st d (i + 1) (left - (rd_T56 st i).f0 + 1) + 1) = i + 1 + stepOff st d (i + 1) (left - (rd_T56 st i).f0 + 1) by omega]
      omega
/-- What so many days cost, and with a size. -/
def payDay (f : Int) (st : List S56) (days : Int) : Int := payAt st (st.length - 1) 0 (days - mn days f)
def paySize (f : Int) (st : List S56) (g size days : Int) : Int := if size = 2 then Int.tdiv (payDay f st days * g + 99) 100 else payDay f st days
theorem payDay_bounds (f : Int) (st : List S56) (g : Int) (h : Good f st g) (days : Int) (d0 : 0 ≤ days) (d1 : days ≤ 400) : 0 ≤ payDay f st days ∧ payDay f st days ≤ 4000000 := by
  obtain ⟨h0, h1, h2, h3⟩ := h
  have m : 0 ≤ mn days f ∧ mn days f ≤ days := by unfold mn; split <;> omega
  obtain ⟨a, b⟩ := payAt_bounds st h3 (st.length - 1) 0 (by omega) (days - mn days f) (by omega)
  unfold payDay
  omega
theorem payDay_zero (f : Int) (st : List S56) (g : Int) (h : Good f st g) : payDay f st 0 = 0 := by
  obtain ⟨h0, h1, h2, h3⟩ := h
  have m : mn 0 f = 0 := if_neg (by omega)
  unfold payDay
  rw [m, Int.sub_self, payAt_zero st h3 _ 0 (by omega)]
theorem payDay_succ (f : Int) (st : List S56) (g : Int) (h : Good f st g) (days : Int) (d0 : 0 ≤ days) : payDay f st (days + 1) = payDay f st days + rateDay f st (days + 1) := by
  obtain ⟨h0, h1, h2, h3⟩ := h
  unfold payDay rateDay stepDay
  by_cases c : days + 1 ≤ f
  · have e1 : mn (days + 1) f = days + 1 := if_neg (by omega)
    have e2 : mn days f = days := if_neg (by omega)
    rw [if_pos c, if_pos (by omega), e1, e2, Int.sub_self, Int.sub_self, payAt_zero st h3 _ 0 (by omega)]
    rfl
  · have e1 : mn (days + 1) f = f := if_pos (by omega)
    have e2 : mn days f = f := by unfold mn; split <;> omega
    have e3 : days + 1 - f = days - f + 1 := by omega
    rw [if_neg c, if_neg (by omega), e1, e2, e3, payAt_succ st h3 (st.length - 1) 0 (by omega) (days - f) (by omega), Nat.zero_add]
/-- The size's part of it. -/
theorem sized (p g : Int) (p0 : 0 ≤ p) (p1 : p ≤ 4000000) (g0 : 100 ≤ g) (g1 : g ≤ 300) : wrap64 (p * g) = p * g ∧ wrap64 (p * g + 99) = p * g + 99 ∧ wrap64 (Int.tdiv (p * g + 99) 100) = Int.tdiv (p * g + 99) 100 ∧ wrap64 (p * g + 100) = p * g + 100 := by
  have a := Int.mul_nonneg p0 (by omega : 0 ≤ g)
  have b : p * g ≤ 4000000 * 300 := Int.mul_le_mul p1 g1 (by omega) (by omega)
  generalize p * g = u at *
  rw [Int.tdiv_eq_ediv_of_nonneg (by omega)]
  exact ⟨w64 (by omega) (by omega), w64 (by omega) (by omega), w64 (by omega) (by omega), w64 (by omega) (by omega)⟩
theorem specPay (f : Int) (st : List S56) (g : Int) (h : Good f st g) (size : Int) (days : Nat) (d1 : days ≤ 400) : Ev (fun k => spec_l22Pay.f k f st g size days) (paySize f st g size days) := by
  have main : ∀ d i : Nat, i + d = days → Ev (fun k => spec_l22Pay.l0 k size days (payDay f st i) ((i + 1 : Nat) : Int) f st g) (paySize f st g size days) := by
    intro d
    induction d with
    | zero =>
      intro i hi
      obtain rfl : i = days := by omega
      obtain ⟨p0, p1⟩ := payDay_bounds f st g h i (by omega) (by omega)
      obtain ⟨a, b, c, _⟩ := sized (payDay f st i) g p0 p1 h.2.2.1.1 h.2.2.1.2
      refine Ev.step (fun k => spec_l22Pay.l0.eq_2 ..) (Ev.neg (by omega) ?_)
      by_cases q : size = 2
      · refine Ev.pos q (Ev.eq (Ev.now _) ?_)
        rw [show paySize f st g size i = Int.tdiv (payDay f st i * g + 99) 100 from if_pos q, a, b, c]
      · exact Ev.neg q (Ev.eq (Ev.now _) (show payDay f st i = paySize f st g size i from (if_neg q).symm))
    | succ d ih =>
      intro i hi
      have w1 : wrap64 (((i + 1 : Nat) : Int) + 1) = ((i + 1 + 1 : Nat) : Int) := by rw [w64 (by omega) (by omega)]; rfl
      have s := payDay_succ f st g h i (by omega)
      obtain ⟨p0, p1⟩ := payDay_bounds f st g h ((i + 1 : Nat) : Int) (by omega) (by omega)
      have s' : payDay f st ((i + 1 : Nat) : Int) = payDay f st i + rateDay f st ((i + 1 : Nat) : Int) := s
      have w2 : wrap64 (payDay f st i + rateDay f st ((i + 1 : Nat) : Int)) = payDay f st ((i + 1 : Nat) : Int) := by rw [← s']; exact w64 (by omega) (by omega)
      have r := ih (i + 1) (by omega)
      rw [← w1, ← w2] at r
      exact Ev.step (fun k => spec_l22Pay.l0.eq_2 ..) (Ev.pos (by omega) (Ev.bind (specRate f st g h _ (by omega)) r))
  have z := main days 0 (by omega)
  rw [show ((0 : Nat) : Int) = 0 from rfl, payDay_zero f st g h] at z
  exact z


/-- The days of step i and of the ones behind it. -/
def splitAt' (st : List S56) : Nat → Nat → Int → List Int
  | 0, _, left => [left]
  | d + 1, i, left => mn left (rd_T56 st i).f0 :: splitAt' st d (i + 1) (left - mn left (rd_T56 st i).f0)
theorem splitAt_length (st : List S56) : ∀ d i : Nat, ∀ left : Int, (splitAt' st d i left).length = d + 1 := by
  intro d
  induction d with
  | zero => intro i left; rfl
  | succ d ih => intro i left; exact congrArg (· + 1) (ih (i + 1) _)
def splitDay (f : Int) (st : List S56) (days : Int) : List Int := mn days f :: splitAt' st (st.length - 1) 0 (days - mn days f)
theorem implSplit (f : Int) (st : List S56) (g : Int) (h : Good f st g) (days : Int) (d0 : 0 ≤ days) (d1 : days ≤ 400) : Ev (fun k => impl_splitStay.f k f st g days) (splitDay f st days) := by
  obtain ⟨h0, h1, h2, h3⟩ := h
  have main : ∀ d i : Nat, i + 1 + d = st.length → ∀ left : Int, 0 ≤ left → left ≤ 400 → ∀ out : List Int, out.length ≤ i + 1 → Ev (fun k => impl_splitStay.l0 k out left st st.length i f st g) (out ++ splitAt' st d i left) := by
    intro d
    induction d with
    | zero =>
      intro i hi left l0 l1 out ho
      have w0 : wrap64 ((st.length : Int) - 1) = i := by rw [w64 (by omega) (by omega)]; omega
      have w1 : wrap64 ((i : Int) + 1) = ((i + 1 : Nat) : Int) := by rw [w64 (by omega) (by omega)]; rfl
      refine Ev.step (fun k => impl_splitStay.l0.eq_2 ..) (Ev.pos (by omega) (Ev.pos (by omega) (Ev.pos (by omega) (Ev.pos w0.symm (Ev.pos (by omega) ?_)))))
      rw [w1]
      exact Ev.step (fun k => impl_splitStay.l0.eq_2 ..) (Ev.neg (by omega) (Ev.now _))
    | succ d ih =>
      intro i hi left l0 l1 out ho
      obtain ⟨⟨p1, p2⟩, _⟩ := h3 i (by omega)
      have m : 0 ≤ mn left (rd_T56 st i).f0 ∧ mn left (rd_T56 st i).f0 ≤ left := by unfold mn; split <;> omega
      obtain ⟨m0, m1⟩ := m
      generalize hx : mn left (rd_T56 st i).f0 = x at m0 m1
      have li : (i : Int) < st.length := by omega
      have i0 : (0 : Int) ≤ i := by omega
      have ni : ¬ (i : Int) = (st.length : Int) - 1 := by omega
      have lo : out.length < 17592186044416 := by omega
      have lo2 : (out ++ [x]).length ≤ i + 1 + 1 := by rw [List.length_append, List.length_singleton]; omega
      have r := ih (i + 1) (by omega) (left - x) (by omega) (by omega) (out ++ [x]) lo2
      have w0 : wrap64 ((st.length : Int) - 1) = (st.length : Int) - 1 := w64 (by omega) (by omega)
      have w1 : wrap64 ((i : Int) + 1) = ((i + 1 : Nat) : Int) := by rw [w64 (by omega) (by omega)]; rfl
      have w2 : wrap64 (left - x) = left - x := w64 (by omega) (by omega)
      have E : splitAt' st (d + 1) i left = x :: splitAt' st d (i + 1) (left - x) := by rw [← hx]; rfl
      refine Ev.step (fun k => impl_splitStay.l0.eq_2 ..) (Ev.pos li (Ev.pos i0 (Ev.pos li (Ev.neg (by rw [w0]; exact ni) (Ev.pos lo ?_)))))
      rw [hx, w1, w2]
      refine Ev.eq r ?_
      rw [E, List.append_assoc]
      rfl
  have m : 0 ≤ mn days f ∧ mn days f ≤ days := by unfold mn; split <;> omega
  have w2 : wrap64 (days - mn days f) = days - mn days f := w64 (by omega) (by omega)
  have z := main (st.length - 1) 0 (by omega) (days - mn days f) (by omega) (by omega) [mn days f] (by simp)
  have hr : rd [mn days f] 0 = mn days f := rfl
  unfold impl_splitStay.f
  refine Ev.some (Ev.pos (by simp) ?_)
  rw [hr, w2]
  exact z


def Asked (f : Int) (st : List S56) (g size days : Int) : Prop := Good f st g ∧ (1 ≤ size ∧ size ≤ 2) ∧ (0 ≤ days ∧ days ≤ 400)
theorem asked (f : Int) (st : List S56) (hl : st.length ≤ 1048577) (g size days : Int) : ∃ b : Bool, Ev (fun k => spec_l22Asked.f k f st g size days) b ∧ Ev (fun k => impl_isStay.f k f st g size days) b ∧ (b = true ↔ Asked f st g size days) := by
  obtain ⟨b, h1, h2, h3⟩ := good f st hl g
  unfold spec_l22Asked.f impl_isStay.f
  by_cases c0 : b = true
  · by_cases c1 : 1 ≤ size ∧ size ≤ 2
    · refine ⟨decide (0 ≤ days ∧ days ≤ 400), Ev.bind h1 (Ev.pos c0 (Ev.const (l1In_eq _ _ _) (Ev.pos (decide_eq_true c1) (Ev.const (l1In_eq _ _ _) (Ev.now _))))), Ev.bind h2 (Ev.pos c0 (Ev.const (within_eq _ _ _) (Ev.pos (decide_eq_true c1) (Ev.const (within_eq _ _ _) (Ev.now _))))), ?_⟩
      exact ⟨fun h => ⟨h3.1 c0, c1, of_decide_eq_true h⟩, fun h => decide_eq_true h.2.2⟩
    · exact ⟨false, Ev.bind h1 (Ev.pos c0 (Ev.const (l1In_eq _ _ _) (Ev.neg (fun h => c1 (of_decide_eq_true h)) (Ev.now _)))), Ev.bind h2 (Ev.pos c0 (Ev.const (within_eq _ _ _) (Ev.neg (fun h => c1 (of_decide_eq_true h)) (Ev.now _)))), ⟨fun h => (by cases h), fun h => absurd h.2.1 c1⟩⟩
  · exact ⟨false, Ev.bind h1 (Ev.neg c0 (Ev.now _)), Ev.bind h2 (Ev.neg c0 (Ev.now _)), ⟨fun h => (by cases h), fun h => absurd (h3.2 h.1) c0⟩⟩

theorem implPay (f : Int) (st : List S56) (g : Int) (h : Good f st g) (size days : Int) (d0 : 0 ≤ days) (d1 : days ≤ 400) : Ev (fun k => impl_stayCharge.f k f st g size days) (paySize f st g size days) := by
  have sp := implSplit f st g h days d0 d1
  obtain ⟨P0, P1⟩ := payDay_bounds f st g h days d0 d1
  obtain ⟨h0, h1, h2, h3⟩ := h
  have fin : Ev (fun k => impl_stayCharge.l0 k size (payDay f st days) (splitAt' st (st.length - 1) 0 (days - mn days f)) st.length st.length f st g) (paySize f st g size days) := by
    obtain ⟨a, b, c, e⟩ := sized (payDay f st days) g P0 P1 h2.1 h2.2
    refine Ev.step (fun k => impl_stayCharge.l0.eq_2 ..) (Ev.neg (by omega) ?_)
    unfold impl_ceiling.f
    by_cases q : size = 2
    · refine Ev.pos q (Ev.bind (Ev.neg (by omega) (Ev.now _)) (Ev.eq (Ev.now _) ?_))
      rw [show paySize f st g size days = Int.tdiv (payDay f st days * g + 99) 100 from if_pos q, a, e, show payDay f st days * g + 100 - 1 = payDay f st days * g + 99 by omega, b, c]
    · exact Ev.neg q (Ev.eq (Ev.now _) (show payDay f st days = paySize f st g size days from (if_neg q).symm))
  have m : 0 ≤ mn days f ∧ mn days f ≤ days := by unfold mn; split <;> omega
  have main : ∀ d i : Nat, i + 1 + d = st.length → ∀ left : Int, 0 ≤ left → ∀ (pre : List Int) (s : Int), pre.length = i → 0 ≤ s → pre ++ splitAt' st d i left = splitAt' st (st.length - 1) 0 (days - mn days f) → s + payAt st d i left = payDay f st days →
      Ev (fun k => impl_stayCharge.l0 k size s (pre ++ splitAt' st d i left) st.length i f st g) (paySize f st g size days) := by
    intro d
    induction d with
    | zero =>
      intro i hi left l0 pre s hp hs he hv
      obtain ⟨_, o1, o2⟩ := h3 i (by omega)
      have li : (i : Int) < st.length := by omega
      have i0 : (0 : Int) ≤ i := by omega
      have ln : (pre ++ splitAt' st 0 i left).length = st.length := by rw [List.length_append, splitAt_length]; omega
      have ll : (i : Int) < (pre ++ splitAt' st 0 i left).length := by rw [ln]; exact li
      have e1 : rd (pre ++ splitAt' st 0 i left) i = left := by unfold rd; rw [Int.toNat_natCast, List.getD_eq_getElem?_getD, ← hp, List.getElem?_append_right (Nat.le_refl _), Nat.sub_self]; rfl
      have pv : payAt st 0 i left = left * (rd_T56 st i).f1 := rfl
      have c := Int.mul_nonneg l0 o1
      rw [pv] at hv
      have w2 : wrap64 (s + wrap64 (rd (pre ++ splitAt' st 0 i left) i * (rd_T56 st i).f1)) = payDay f st days := by
        rw [e1]
        generalize left * (rd_T56 st i).f1 = u at c hv ⊢
        generalize payDay f st days = v at P0 P1 hv ⊢
        rw [w64 (x := u) (by omega) (by omega), hv]
        exact w64 (by omega) (by omega)
      have q1 : i + 1 = st.length := by omega
      have w1 : wrap64 ((i : Int) + 1) = ((i + 1 : Nat) : Int) := by rw [w64 (by omega) (by omega)]; rfl
      refine Ev.step (fun k => impl_stayCharge.l0.eq_2 ..) (Ev.pos li (Ev.pos i0 (Ev.pos ll (Ev.pos li ?_))))
      rw [w1, w2, he, q1]
      exact fin
    | succ d ih =>
      intro i hi left l0 pre s hp hs he hv
      obtain ⟨⟨p1, p2⟩, o1, o2⟩ := h3 i (by omega)
      have mm : 0 ≤ mn left (rd_T56 st i).f0 ∧ mn left (rd_T56 st i).f0 ≤ left := by unfold mn; split <;> omega
      have E : splitAt' st (d + 1) i left = mn left (rd_T56 st i).f0 :: splitAt' st d (i + 1) (left - mn left (rd_T56 st i).f0) := rfl
      obtain ⟨m0, m1⟩ := mm
      have pv : payAt st (d + 1) i left = mn left (rd_T56 st i).f0 * (rd_T56 st i).f1 + payAt st d (i + 1) (left - mn left (rd_T56 st i).f0) := rfl
      rw [pv] at hv
      rw [E] at he
      have li : (i : Int) < st.length := by omega
      have i0 : (0 : Int) ≤ i := by omega
      generalize hx : mn left (rd_T56 st i).f0 = x at m0 m1 hv he E
      have A : pre ++ x :: splitAt' st d (i + 1) (left - x) = (pre ++ [x]) ++ splitAt' st d (i + 1) (left - x) := by rw [List.append_assoc]; rfl
      have ln : (pre ++ x :: splitAt' st d (i + 1) (left - x)).length = st.length := by rw [List.length_append, List.length_cons, splitAt_length]; omega
      have ll : (i : Int) < (pre ++ x :: splitAt' st d (i + 1) (left - x)).length := by rw [ln]; exact li
      have e1 : rd (pre ++ x :: splitAt' st d (i + 1) (left - x)) i = x := by unfold rd; rw [Int.toNat_natCast, List.getD_eq_getElem?_getD, ← hp, List.getElem?_append_right (Nat.le_refl _), Nat.sub_self]; rfl
      have c := Int.mul_nonneg m0 o1
      have b := (payAt_bounds st h3 d (i + 1) (by omega) (left - x) (by omega)).1
      have hq : (pre ++ [x]).length = i + 1 := by rw [List.length_append, List.length_singleton]; omega
      have r := ih (i + 1) (by omega) (left - x) (by omega) (pre ++ [x]) (s + x * (rd_T56 st i).f1) hq (by omega) (by rw [← A]; exact he) (by omega)
      rw [← A] at r
      have w2 : wrap64 (s + wrap64 (x * (rd_T56 st i).f1)) = s + x * (rd_T56 st i).f1 := by
        generalize x * (rd_T56 st i).f1 = u at c hv ⊢
        generalize payAt st d (i + 1) (left - x) = v at b hv
        generalize payDay f st days = z at P0 P1 hv
        rw [w64 (x := u) (by omega) (by omega)]
        exact w64 (by omega) (by omega)
      have w1 : wrap64 ((i : Int) + 1) = ((i + 1 : Nat) : Int) := by rw [w64 (by omega) (by omega)]; rfl
      rw [E]
      refine Ev.step (fun k => impl_stayCharge.l0.eq_2 ..) (Ev.pos li (Ev.pos i0 (Ev.pos ll (Ev.pos li ?_))))
      rw [w1, e1, w2]
      exact r
  have z := main (st.length - 1) 0 (by omega) (days - mn days f) (by omega) [] 0 rfl (by omega) rfl (by rw [Int.zero_add]; rfl)
  unfold impl_stayCharge.f
  refine Ev.bind sp (Ev.pos ?_ (Ev.some ?_))
  · unfold splitDay
    rw [List.length_cons, splitAt_length]
    omega
  · have e : (splitDay f st days).drop 1 = splitAt' st (st.length - 1) 0 (days - mn days f) := rfl
    have ln : (splitAt' st (st.length - 1) 0 (days - mn days f)).length = st.length := by rw [splitAt_length]; omega
    rw [e, ln]
    exact z

theorem cheaperBoth (f : Int) (st : List S56) (hl : st.length ≤ 1048577) (g f' : Int) (st' : List S56) (hl' : st'.length ≤ 1048577) (g' size days : Int) :
    ∃ r : Int × Bool, Ev (fun k => spec_CheaperCharge.f k f st g f' st' g' size days) r ∧ Ev (fun k => impl_CheaperCharge.f k f st g f' st' g' size days) r := by
  obtain ⟨b, h1, h2, h3⟩ := asked f st hl g size days
  obtain ⟨b', h1', h2', h3'⟩ := asked f' st' hl' g' size days
  unfold spec_CheaperCharge.f impl_CheaperCharge.f
  have js : Ev (fun k => spec_CheaperCharge.j0 k size days true f st g f' st' g') (0, false) := Ev.step (fun k => spec_CheaperCharge.j0.eq_2 ..) (Ev.pos rfl (Ev.now _))
  have ji : Ev (fun k => impl_CheaperCharge.j0 k size days true f st g f' st' g') (0, false) := Ev.step (fun k => impl_CheaperCharge.j0.eq_2 ..) (Ev.pos rfl (Ev.now _))
  by_cases c : b = true
  · by_cases c' : b' = true
    · obtain ⟨hg, _, d0, d1⟩ := h3.1 c
      obtain ⟨hg', _, _, _⟩ := h3'.1 c'
      have sp := specPay f st g hg size days.toNat (by omega)
      have sp' := specPay f' st' g' hg' size days.toNat (by omega)
      rw [Int.toNat_of_nonneg d0] at sp sp'
      have im := implPay f st g hg size days d0 d1
      have im' := implPay f' st' g' hg' size days d0 d1
      have nn : ¬ (!b') = true := by rw [c']; exact fun h => by cases h
      by_cases q : paySize f st g size days < paySize f' st' g' size days
      · exact ⟨_, Ev.bind h1 (Ev.pos c (Ev.bind h1' (Ev.step (fun k => spec_CheaperCharge.j0.eq_2 ..) (Ev.neg nn (Ev.bind sp (Ev.bind sp' (Ev.pos q (Ev.now _)))))))), Ev.bind h2 (Ev.pos c (Ev.bind h2' (Ev.step (fun k => impl_CheaperCharge.j0.eq_2 ..) (Ev.neg nn (Ev.bind im (Ev.bind im' (Ev.pos q (Ev.now _))))))))⟩
      · by_cases q' : paySize f' st' g' size days < paySize f st g size days
        · exact ⟨_, Ev.bind h1 (Ev.pos c (Ev.bind h1' (Ev.step (fun k => spec_CheaperCharge.j0.eq_2 ..) (Ev.neg nn (Ev.bind sp (Ev.bind sp' (Ev.neg q (Ev.pos q' (Ev.now _))))))))), Ev.bind h2 (Ev.pos c (Ev.bind h2' (Ev.step (fun k => impl_CheaperCharge.j0.eq_2 ..) (Ev.neg nn (Ev.bind im (Ev.bind im' (Ev.neg q (Ev.pos q' (Ev.now _)))))))))⟩
        · exact ⟨_, Ev.bind h1 (Ev.pos c (Ev.bind h1' (Ev.step (fun k => spec_CheaperCharge.j0.eq_2 ..) (Ev.neg nn (Ev.bind sp (Ev.bind sp' (Ev.neg q (Ev.neg q' (Ev.now _))))))))), Ev.bind h2 (Ev.pos c (Ev.bind h2' (Ev.step (fun k => impl_CheaperCharge.j0.eq_2 ..) (Ev.neg nn (Ev.bind im (Ev.bind im' (Ev.neg q (Ev.neg q' (Ev.now _)))))))))⟩
    · have c0 : b' = false := by cases b' <;> simp_all
      subst c0
      exact ⟨_, Ev.bind h1 (Ev.pos c (Ev.bind h1' js)), Ev.bind h2 (Ev.pos c (Ev.bind h2' ji))⟩
  · exact ⟨_, Ev.bind h1 (Ev.neg c js), Ev.bind h2 (Ev.neg c ji)⟩
theorem FnExactCheaperCharge : ∀ (y0 : S24) (y1 : S24) (a2 : Int) (a3 : Int), inv24 y0 → inv24 y1 → (Lit.int .i64 a2).wf = true → (Lit.int .i64 a3).wf = true → ∃ k, laws_FnExactCheaperCharge.f k y0.f0 y0.f1 y0.f2 y1.f0 y1.f1 y1.f2 a2 a3 = some true := by
  intro y0 y1 a2 a3 hy hy' _ _
  refine Ev.rounds ?_
  unfold laws_FnExactCheaperCharge.f
  obtain ⟨z, z1, z0, z2⟩ := szCharge y0.f0 y0.f1 y0.f2 1048576 (by omega) (by omega) hy.2.1.1
  refine Ev.const z1 ?_
  by_cases hz : z < 0
  · exact Ev.pos hz (Ev.now _)
  · refine Ev.neg hz ?_
    have hn := z2 (by omega)
    obtain ⟨u, u1, _, u2⟩ := szCharge y1.f0 y1.f1 y1.f2 z (by omega) z0 hy'.2.1.1
    refine Ev.const u1 ?_
    by_cases hu : u < 0
    · exact Ev.pos hu (Ev.now _)
    · refine Ev.neg hu ?_
      have hk := u2 (by omega)
      have hm : (y0.f1.map convRateStep).length ≤ 1048577 := by simp; omega
      have hq : (y1.f1.map convRateStep).length ≤ 1048577 := by simp; omega
      obtain ⟨r, h1, h2⟩ := cheaperBoth y0.f0 (y0.f1.map convRateStep) hm y0.f2 y1.f0 (y1.f1.map convRateStep) hq y1.f2 a2 a3
      have tv := toCharge y0.f0 y0.f1 y0.f2 hn
      have tw := toCharge y1.f0 y1.f1 y1.f2 hk
      refine Ev.bind tv (Ev.bind tw (Ev.bind h1 (Ev.bind tv (Ev.bind tw (Ev.bind h2 (Ev.pos rfl ?_))))))
      refine Ev.step (fun k => laws_FnExactCheaperCharge.j0.eq_2 ..) (Ev.neg (by simp) ?_)
      exact Ev.bind tv (Ev.bind (eqCharge _ _ _ hm) (Ev.pos rfl (Ev.bind tw (Ev.bind (eqCharge _ _ _ hq) (Ev.pos rfl (Ev.now _))))))
end Go.Proofs.Ytgnmnjlkpdbepaa.Pure
