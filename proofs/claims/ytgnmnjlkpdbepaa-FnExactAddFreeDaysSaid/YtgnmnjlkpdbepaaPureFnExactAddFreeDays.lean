/- The program's AddFreeDays returns what the reference's returns, for all arguments; the arguments read as they did, and the result is new memory. No condition. -/
import Derived.Test.YtgnmnjlkpdbepaaInvFnExactAddFreeDays
import Derived.Test.YtgnmnjlkpdbepaaWHelp
namespace Go.Proofs.Ytgnmnjlkpdbepaa.Pure
open Go.RowKit Go.Proofs.YtgnmnjlkpdbepaaW.PrintWords Go.Proofs.YtgnmnjlkpdbepaaW.PrintLast Go.Proofs.YtgnmnjlkpdbepaaW.PrintMore Go.Proofs.YtgnmnjlkpdbepaaW.Help Go.Proofs.Ytgnmnjlkpdbepaa.PFnExactAddFreeDays
set_option linter.unusedVariables false

def convRateStep (x : S76) : S56 := ⟨x.f0, x.f1⟩
theorem szRateStepS (l : List S76) (a : Int) (h0 : 0 ≤ a) (h1 : a ≤ 1048576) (hl : l.length ≤ 9223372036854775807) :
    laws_szRateStepS.f l a = some (if a < l.length then -1 else a - l.length) := by
  unfold laws_szRateStepS.f
  rw [w64 (by omega) (by omega)]
  by_cases h : a < l.length
  · rw [if_pos (by omega), if_pos h]
  · rw [if_neg (by omega), if_neg h]
/-- The size: below nought, or no more than a million steps. -/
theorem szCharge (f : Int) (l : List S76) (g a : Int) (h0 : 0 ≤ a) (h1 : a ≤ 1048576) (hl : l.length ≤ 9223372036854775807) :
    ∃ z : Int, laws_szCharge.f f l g a = some z ∧ z ≤ 1048576 ∧ (0 ≤ z → l.length ≤ 1048576) := by
  unfold laws_szCharge.f
  rw [szRateStepS l a h0 h1 hl]
  by_cases h : a < l.length
  · rw [if_pos h]
    exact ⟨-1, rfl, by omega, by omega⟩
  · rw [if_neg h]
    refine ⟨a - l.length, ?_, by omega, by omega⟩
    show (if a - (l.length : Int) < 0 then _ else _) = _
    rw [if_neg (by omega)]
theorem toRateStepS (l : List S76) (hl : l.length ≤ 1048576) : Ev (fun k => laws_toRateStepS.f k l) (l.map convRateStep) := by
  unfold laws_toRateStepS.f
  refine Ev.pos (by omega) (Ev.pos (by omega) ?_)
  simp only [Int.toNat_natCast]
  refine fill_ev l convRateStep z56 (fun k ys i => laws_toRateStepS.l0 k l ys i) ?_ ?_
  · intro i h ys hy r hr
    refine Ev.step (fun k => laws_toRateStepS.l0.eq_2 ..) ?_
    refine Ev.pos (by omega) (Ev.pos (by omega) ?_)
    refine Ev.const (a := (l[i].f0, l[i].f1)) (by simp [laws_toRateStep.f, rd_T76, h]) ?_
    refine Ev.pos (by omega) ?_
    rw [w64 (by omega) (by omega)]
    exact hr
  · intro ys hy
    refine Ev.step (fun k => laws_toRateStepS.l0.eq_2 ..) ?_
    exact Ev.neg (by omega) (Ev.now _)
theorem toCharge (f : Int) (l : List S76) (g : Int) (hl : l.length ≤ 1048576) : Ev (fun k => laws_toCharge.f k f l g) (f, l.map convRateStep, g) := by
  unfold laws_toCharge.f
  exact Ev.bind (toRateStepS l hl) (Ev.now _)
theorem eqRateStepS (l : List S56) (hl : l.length ≤ 1048577) : Ev (fun k => laws_eqRateStepS.f k l l) true := by
  unfold laws_eqRateStepS.f
  refine Ev.pos rfl ?_
  refine down_ev l.length (fun k i => laws_eqRateStepS.l0 k l l i) ?_ ?_
  · intro i h hr
    refine Ev.step (fun k => laws_eqRateStepS.l0.eq_2 ..) ?_
    refine Ev.pos (by omega) (Ev.pos (by omega) (Ev.pos (by omega) ?_))
    refine Ev.const (a := true) (by simp [laws_eqRateStep.f]) ?_
    refine Ev.pos rfl ?_
    rw [w64 (by omega) (by omega)]
    exact hr
  · refine Ev.step (fun k => laws_eqRateStepS.l0.eq_2 ..) ?_
    exact Ev.neg (by omega) (Ev.now _)
theorem eqCharge (f : Int) (l : List S56) (g : Int) (hl : l.length ≤ 1048577) : Ev (fun k => laws_eqCharge.f k f l g f l g) true := by
  unfold laws_eqCharge.f
  exact Ev.pos rfl (Ev.bind (eqRateStepS l hl) (Ev.pos rfl (Ev.pos rfl (Ev.now _))))

theorem l1In_eq (a b c : Int) : spec_l1In.f a b c = some (decide (b ≤ a ∧ a ≤ c)) := by
  unfold spec_l1In.f
  by_cases h : b ≤ a <;> simp [h]

theorem within_eq (a b c : Int) : impl_within.f a b c = some (decide (b ≤ a ∧ a ≤ c)) := by
  unfold impl_within.f
  by_cases h : b ≤ a <;> simp [h]

def stepOk (x : S56) : Prop := (1 ≤ x.f0 ∧ x.f0 ≤ 100) ∧ (0 ≤ x.f1 ∧ x.f1 ≤ 10000)
instance (x : S56) : Decidable (stepOk x) := by unfold stepOk; infer_instance
def Good (f : Int) (st : List S56) (g : Int) : Prop := (0 ≤ f ∧ f ≤ 30) ∧ (1 ≤ (st.length : Int) ∧ (st.length : Int) ≤ 6) ∧ (100 ≤ g ∧ g ≤ 300) ∧ ∀ j : Nat, j < st.length → stepOk (rd_T56 st j)
theorem notOk (x : S56) : impl_IsValidCharge_1.f x.f0 x.f1 = some (!decide (stepOk x)) := by
  unfold impl_IsValidCharge_1.f stepOk
  rw [within_eq, within_eq]
  by_cases h : 1 ≤ x.f0 ∧ x.f0 ≤ 100
  · simp only [h, Option.bind_some, true_and, and_self, decide_true, if_true]
  · simp only [h, Option.bind_some, false_and, decide_false]
    rfl
theorem goodLoop (st : List S56) (hl : st.length ≤ 1048577) (f g : Int) : ∀ d i : Nat, i + d = st.length → ∃ (b : Bool) (q : Int), Ev (fun k => spec_l22Good.l0 k i f st g) b ∧
    Ev (fun k => slices_IndexFunc_impl_RateStep.l0 k st st.length i) q ∧ (!decide (q ≥ 0)) = b ∧ (b = true ↔ ∀ j : Nat, i ≤ j → j < st.length → stepOk (rd_T56 st j)) := by
  intro d
  induction d with
  | zero =>
    intro i hi
    exact ⟨true, -1, Ev.step (fun k => spec_l22Good.l0.eq_2 ..) (Ev.neg (by omega) (Ev.now _)), Ev.step (fun k => slices_IndexFunc_impl_RateStep.l0.eq_2 ..) (Ev.neg (by omega) (Ev.now _)), rfl, ⟨fun _ j h1 h2 => absurd h2 (by omega), fun _ => rfl⟩⟩
  | succ d ih =>
    intro i hi
    have li : (i : Int) < st.length := by omega
    have l0 : (0 : Int) ≤ i := by omega
    have w1 : wrap64 ((i : Int) + 1) = ((i + 1 : Nat) : Int) := by rw [w64 (by omega) (by omega)]; rfl
    have no := notOk (rd_T56 st i)
    by_cases c : stepOk (rd_T56 st i)
    · obtain ⟨b, q, h1, h2, h3, h4⟩ := ih (i + 1) (by omega)
      rw [← w1] at h1 h2
      refine ⟨b, q, ?_, ?_, h3, h4.trans ⟨fun h j j1 j2 => ?_, fun h j j1 j2 => h j (by omega) j2⟩⟩
      · exact Ev.step (fun k => spec_l22Good.l0.eq_2 ..) (Ev.pos li (Ev.pos l0 (Ev.const (l1In_eq _ _ _) (Ev.pos (decide_eq_true c.1) (Ev.const (l1In_eq _ _ _) (Ev.pos (decide_eq_true c.2) h1))))))
      · refine Ev.step (fun k => slices_IndexFunc_impl_RateStep.l0.eq_2 ..) (Ev.pos li (Ev.pos l0 (Ev.pos li (Ev.const no (Ev.neg ?_ h2)))))
        rw [decide_eq_true c]
        exact fun h => by cases h
      · rcases Nat.lt_or_ge i j with q | q
        · exact h j q j2
        · obtain rfl : j = i := by omega
          exact c
    · refine ⟨false, i, ?_, ?_, by simp, ⟨fun h => (by cases h), fun h => absurd (h i (Nat.le_refl _) (by omega)) c⟩⟩
      · refine Ev.step (fun k => spec_l22Good.l0.eq_2 ..) (Ev.pos li (Ev.pos l0 (Ev.const (l1In_eq _ _ _) (Ev.ite (fun h1 => Ev.const (l1In_eq _ _ _) (Ev.neg (fun h2 => c ⟨of_decide_eq_true h1, of_decide_eq_true h2⟩) (Ev.now _))) (fun _ => Ev.now _)))))
      · refine Ev.step (fun k => slices_IndexFunc_impl_RateStep.l0.eq_2 ..) (Ev.pos li (Ev.pos l0 (Ev.pos li (Ev.const no (Ev.pos ?_ (Ev.now _))))))
        rw [decide_eq_false c]
        rfl
/-- Both tests of a charge. -/
theorem good (f : Int) (st : List S56) (hl : st.length ≤ 1048577) (g : Int) : ∃ b : Bool, Ev (fun k => spec_l22Good.f k f st g) b ∧ Ev (fun k => impl_IsValidCharge.f k f st g) b ∧ (b = true ↔ Good f st g) := by
  unfold spec_l22Good.f impl_IsValidCharge.f slices_ContainsFunc_impl_RateStep.f slices_IndexFunc_impl_RateStep.f
  have jt : Ev (fun k => spec_l22Good.j0 k true f st g) false := Ev.step (fun k => spec_l22Good.j0.eq_2 ..) (Ev.pos rfl (Ev.now _))
  by_cases c0 : 0 ≤ f ∧ f ≤ 30
  · by_cases c1 : 1 ≤ (st.length : Int) ∧ (st.length : Int) ≤ 6
    · by_cases c2 : 100 ≤ g ∧ g ≤ 300
      · obtain ⟨b, q, h1, h2, h3, h4⟩ := goodLoop st hl f g st.length 0 (by omega)
        refine ⟨b, Ev.const (l1In_eq _ _ _) (Ev.pos (decide_eq_true c0) (Ev.const (l1In_eq _ _ _) (Ev.pos (decide_eq_true c1) (Ev.const (l1In_eq _ _ _) (Ev.step (fun k => spec_l22Good.j0.eq_2 ..) (Ev.neg ?_ h1)))))),
          Ev.const (within_eq _ _ _) (Ev.pos (decide_eq_true c0) (Ev.const (within_eq _ _ _) (Ev.pos (decide_eq_true c1) (Ev.const (within_eq _ _ _) (Ev.pos (decide_eq_true c2) (Ev.bind (Ev.bind h2 (Ev.now _)) (Ev.eq (Ev.now _) h3))))))), h4.trans ⟨fun h => ⟨c0, c1, c2, fun j hj => h j (by omega) hj⟩, fun h j _ hj => h.2.2.2 j hj⟩⟩
        rw [decide_eq_true c2]
        exact fun h => by cases h
      · refine ⟨false, Ev.const (l1In_eq _ _ _) (Ev.pos (decide_eq_true c0) (Ev.const (l1In_eq _ _ _) (Ev.pos (decide_eq_true c1) (Ev.const (l1In_eq _ _ _) ?_)))),
          Ev.const (within_eq _ _ _) (Ev.pos (decide_eq_true c0) (Ev.const (within_eq _ _ _) (Ev.pos (decide_eq_true c1) (Ev.const (within_eq _ _ _) (Ev.neg (fun h => c2 (of_decide_eq_true h)) (Ev.now _)))))), ⟨fun h => (by cases h), fun h => absurd h.2.2.1 c2⟩⟩
        rw [decide_eq_false c2]
        exact jt
    · exact ⟨false, Ev.const (l1In_eq _ _ _) (Ev.pos (decide_eq_true c0) (Ev.const (l1In_eq _ _ _) (Ev.neg (fun h => c1 (of_decide_eq_true h)) jt))),
          Ev.const (within_eq _ _ _) (Ev.pos (decide_eq_true c0) (Ev.const (within_eq _ _ _) (Ev.neg (fun h => c1 (of_decide_eq_true h)) (Ev.now _)))), ⟨fun h => (by cases h), fun h => absurd h.2.1 c1⟩⟩
  · exact ⟨false, Ev.const (l1In_eq _ _ _) (Ev.neg (fun h => c0 (of_decide_eq_true h)) jt), Ev.const (within_eq _ _ _) (Ev.neg (fun h => c0 (of_decide_eq_true h)) (Ev.now _)), ⟨fun h => (by cases h), fun h => absurd h.1 c0⟩⟩

theorem markRateHeld (l : List S56) (hl : l.length ≤ 1048577) (a : Int) (h0 : 0 ≤ a) (h1 : a ≤ 1000000000) : ∃ ys : List S56, Ev (fun k => laws_markRateStepS.f k l a) (a + 2 * l.length, ys) ∧ Ev (fun k => laws_heldRateStepS.f k ys a) (a + 2 * l.length) := by
  unfold laws_markRateStepS.f laws_heldRateStepS.f
  -- behind i rounds: the first i are marked
  have main : ∀ d i : Nat, i + d = l.length → ∀ ys : List S56, ys.length = l.length → (∀ j, j < i → rd_T56 ys j = (⟨a + 2 * j, a + 2 * j + 1⟩ : S56)) →
      ∃ zs : List S56, zs.length = l.length ∧ (∀ j, j < l.length → rd_T56 zs j = (⟨a + 2 * j, a + 2 * j + 1⟩ : S56)) ∧ Ev (fun k => laws_markRateStepS.l0 k ys (a + 2 * i) i) (a + 2 * l.length, zs) := by
    intro d
    induction d with
    | zero =>
      intro i hi ys hy hm
      obtain rfl : i = l.length := by omega
      exact ⟨ys, hy, hm, Ev.step (fun k => laws_markRateStepS.l0.eq_2 ..) (Ev.neg (by omega) (Ev.now _))⟩
    | succ d ih =>
      intro i hi ys hy hm
      obtain ⟨zs, z1, z2, z3⟩ := ih (i + 1) (by omega) (ys.set i (⟨a + 2 * i, a + 2 * i + 1⟩ : S56)) (by simpa using hy) (fun j hj => by
        unfold rd_T56
        rw [Int.toNat_natCast]
        rcases Nat.lt_or_ge j i with h | h
        · have := hm j h
          unfold rd_T56 at this
          rw [Int.toNat_natCast] at this
          rw [List.getD_eq_getElem?_getD, List.getElem?_set_ne (by omega), ← List.getD_eq_getElem?_getD]
          exact this
        · obtain rfl : j = i := by omega
          rw [List.getD_eq_getElem?_getD, List.getElem?_set_self (by omega)]
          rfl)
      refine ⟨zs, z1, z2, Ev.step (fun k => laws_markRateStepS.l0.eq_2 ..) (Ev.pos (by omega) (Ev.pos (by omega) (Ev.some ?_)))⟩
      have e1 : wrap64 (a + 2 * i + 1) = a + 2 * i + 1 := w64 (by omega) (by omega)
      have e2 : wrap64 (a + 2 * i + 1 + 1) = a + 2 * ((i + 1 : Nat) : Int) := by rw [w64 (by omega) (by omega)]; omega
      have e3 : wrap64 ((i : Int) + 1) = ((i + 1 : Nat) : Int) := by rw [w64 (by omega) (by omega)]; rfl
      have e4 : (ys.set ((i : Int)).toNat (⟨a + 2 * i, (rd_T56 ys i).f1⟩ : S56)).set ((i : Int)).toNat (⟨(rd_T56 (ys.set ((i : Int)).toNat (⟨a + 2 * i, (rd_T56 ys i).f1⟩ : S56)) i).f0, a + 2 * i + 1⟩ : S56) = ys.set i (⟨a + 2 * i, a + 2 * i + 1⟩ : S56) := by
        have : (rd_T56 (ys.set ((i : Int)).toNat (⟨a + 2 * i, (rd_T56 ys i).f1⟩ : S56)) i).f0 = a + 2 * i := by
          unfold rd_T56
          rw [Int.toNat_natCast, List.getD_eq_getElem?_getD, List.getElem?_set_self (by omega)]
          rfl
        rw [this, Int.toNat_natCast, List.set_set]
      rw [e1, e2, e3, e4]
      exact z3
  obtain ⟨zs, z1, z2, z3⟩ := main l.length 0 (by omega) l rfl (fun j hj => by omega)
  refine ⟨zs, by simpa using z3, ?_⟩
  have held : ∀ d i : Nat, i + d = l.length → Ev (fun k => laws_heldRateStepS.l0 k zs (a + 2 * i) i) (a + 2 * l.length) := by
    intro d
    induction d with
    | zero =>
      intro i hi
      obtain rfl : i = l.length := by omega
      exact Ev.step (fun k => laws_heldRateStepS.l0.eq_2 ..) (Ev.neg (by omega) (Ev.now _))
    | succ d ih =>
      intro i hi
      have := ih (i + 1) (by omega)
      have e1 : wrap64 (a + 2 * i + 1) = a + 2 * i + 1 := w64 (by omega) (by omega)
      have e2 : wrap64 (a + 2 * i + 1 + 1) = a + 2 * ((i + 1 : Nat) : Int) := by rw [w64 (by omega) (by omega)]; omega
      have e3 : wrap64 ((i : Int) + 1) = ((i + 1 : Nat) : Int) := by rw [w64 (by omega) (by omega)]; rfl
      refine Ev.step (fun k => laws_heldRateStepS.l0.eq_2 ..) (Ev.pos (by omega) (Ev.pos (by omega) ?_))
      rw [z2 i (by omega), e1, e2, e3]
      exact Ev.pos rfl (Ev.pos rfl this)
  simpa using held l.length 0 (by omega)

theorem freeBoth (f : Int) (st : List S56) (hl : st.length ≤ 1048577) (g a : Int) : ∃ r : Int × (List S56) × Int × Bool, Ev (fun k => spec_AddFreeDays.f k f st g a) r ∧ Ev (fun k => impl_AddFreeDays.f k f st g a) r ∧ r.2.1.length ≤ 1048577 := by
  obtain ⟨b, h1, h2, h3⟩ := good f st hl g
  obtain ⟨b', h1', h2', _⟩ := good (wrap64 (f + a)) st hl g
  unfold spec_AddFreeDays.f impl_AddFreeDays.f
  have js : Ev (fun k => spec_AddFreeDays.j0 k a true f st g) (0, [], 0, false) := Ev.step (fun k => spec_AddFreeDays.j0.eq_2 ..) (Ev.pos rfl (Ev.now _))
  have ji : Ev (fun k => impl_AddFreeDays.j0 k a true f st g) (0, [], 0, false) := Ev.step (fun k => impl_AddFreeDays.j0.eq_2 ..) (Ev.pos rfl (Ev.now _))
  have os : spec_l22Own.f f st g = some (f, st, g) := by
    unfold spec_l22Own.f
    rw [Option.bind_some, if_pos (by simp; omega)]
    rfl
  have oi : impl_ownCharge.f f st g = some (f, st, g) := by
    unfold impl_ownCharge.f slices_Clone_impl_RateStep.f
    rw [Option.bind_some, if_pos (by simp; omega)]
    rfl
  by_cases c : b = true
  · by_cases c1 : -30 ≤ a ∧ a ≤ 30
    · have nn : ¬ (!decide (-30 ≤ a ∧ a ≤ 30)) = true := by rw [decide_eq_true c1]; exact fun h => by cases h
      by_cases c2 : b' = true
      · exact ⟨(wrap64 (f + a), st, g, true), Ev.bind h1 (Ev.pos c (Ev.const (l1In_eq _ _ _) (Ev.step (fun k => spec_AddFreeDays.j0.eq_2 ..) (Ev.neg nn (Ev.const os (Ev.bind h1' (Ev.pos c2 (Ev.now _)))))))),
          Ev.bind h2 (Ev.pos c (Ev.const (within_eq _ _ _) (Ev.step (fun k => impl_AddFreeDays.j0.eq_2 ..) (Ev.neg nn (Ev.const oi (Ev.bind h2' (Ev.pos c2 (Ev.now _)))))))), hl⟩
      · exact ⟨(0, [], 0, false), Ev.bind h1 (Ev.pos c (Ev.const (l1In_eq _ _ _) (Ev.step (fun k => spec_AddFreeDays.j0.eq_2 ..) (Ev.neg nn (Ev.const os (Ev.bind h1' (Ev.neg c2 (Ev.now _)))))))),
          Ev.bind h2 (Ev.pos c (Ev.const (within_eq _ _ _) (Ev.step (fun k => impl_AddFreeDays.j0.eq_2 ..) (Ev.neg nn (Ev.const oi (Ev.bind h2' (Ev.neg c2 (Ev.now _)))))))), Nat.zero_le _⟩
    · refine ⟨(0, [], 0, false), Ev.bind h1 (Ev.pos c (Ev.const (l1In_eq _ _ _) ?_)), Ev.bind h2 (Ev.pos c (Ev.const (within_eq _ _ _) ?_)), Nat.zero_le _⟩
      · rw [decide_eq_false c1]; exact js
      · rw [decide_eq_false c1]; exact ji
  · exact ⟨(0, [], 0, false), Ev.bind h1 (Ev.neg c js), Ev.bind h2 (Ev.neg c ji), Nat.zero_le _⟩
theorem FnExactAddFreeDays : ∀ (y0 : S24) (a1 : Int), inv24 y0 → (Lit.int .i64 a1).wf = true → ∃ k, laws_FnExactAddFreeDays.f k y0.f0 y0.f1 y0.f2 a1 = some true := by
  intro y0 a1 hy _
  refine Ev.rounds ?_
  unfold laws_FnExactAddFreeDays.f
  obtain ⟨z, z1, _, z2⟩ := szCharge y0.f0 y0.f1 y0.f2 1048576 (by omega) (by omega) hy.2.1.1
  refine Ev.const z1 ?_
  by_cases hz : z < 0
  · exact Ev.pos hz (Ev.now _)
  · refine Ev.neg hz ?_
    have hn := z2 (by omega)
    have hm : (y0.f1.map convRateStep).length ≤ 1048577 := by simp; omega
    obtain ⟨r, h1, h2, h3⟩ := freeBoth y0.f0 (y0.f1.map convRateStep) hm y0.f2 a1
    have tv := toCharge y0.f0 y0.f1 y0.f2 hn
    have ar := eqCharge y0.f0 (y0.f1.map convRateStep) y0.f2 hm
    have er := eqCharge r.1 r.2.1 r.2.2.1 h3
    obtain ⟨m1, m2, _⟩ := markRateHeld (y0.f1.map convRateStep) hm 1 (by omega) (by omega)
    obtain ⟨n1, n2, n3⟩ := markRateHeld r.2.1 h3 1 (by omega) (by omega)
    have M : Ev (fun k => laws_markCharge.f k y0.f0 (y0.f1.map convRateStep) y0.f2 1) (1 + 2 * (y0.f1.map convRateStep).length, m1) := by unfold laws_markCharge.f; exact Ev.bind m2 (Ev.now _)
    have N : Ev (fun k => laws_markCharge.f k r.1 r.2.1 r.2.2.1 1) (1 + 2 * r.2.1.length, n1) := by unfold laws_markCharge.f; exact Ev.bind n2 (Ev.now _)
    have H : Ev (fun k => laws_heldCharge.f k r.1 n1 r.2.2.1 1) (1 + 2 * r.2.1.length) := by unfold laws_heldCharge.f; exact Ev.bind n3 (Ev.neg (by omega) (Ev.now _))
    refine Ev.bind tv (Ev.bind h1 (Ev.bind tv (Ev.bind h2 (Ev.bind er (Ev.pos rfl ?_)))))
    refine Ev.step (fun k => laws_FnExactAddFreeDays.j0.eq_2 ..) (Ev.neg (by simp) (Ev.bind tv (Ev.bind ar (Ev.pos rfl (Ev.bind M (Ev.neg (by omega) (Ev.bind er (Ev.pos rfl ?_))))))))
    refine Ev.step (fun k => laws_FnExactAddFreeDays.j1.eq_2 ..) (Ev.neg (by simp) (Ev.bind N (Ev.bind H (Ev.neg (by omega) (Ev.pos rfl (Ev.bind tv (Ev.bind h2 (Ev.bind er (Ev.pos rfl ?_)))))))))
    exact Ev.step (fun k => laws_FnExactAddFreeDays.j2.eq_2 ..) (Ev.neg (by simp) (Ev.bind H (Ev.neg (by omega) (Ev.pos rfl (Ev.now _)))))
end Go.Proofs.Ytgnmnjlkpdbepaa.Pure
