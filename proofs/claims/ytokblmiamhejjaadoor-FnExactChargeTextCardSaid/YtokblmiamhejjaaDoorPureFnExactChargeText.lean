/- The program's ChargeText returns what the reference's returns, for all arguments; the argument reads as it did. No condition beyond the listed variables' data, which the card ties to the program's text. -/
import Derived.Test.YtokblmiamhejjaaDoorInvFnExactChargeText
import Derived.Test.YtokblmiamhejjaaDoorWHelp
namespace Go.Proofs.YtokblmiamhejjaaDoor.Pure
open Go.RowKit Go.Proofs.YtokblmiamhejjaaDoorW.PrintWords Go.Proofs.YtokblmiamhejjaaDoorW.PrintLast Go.Proofs.YtokblmiamhejjaaDoorW.PrintMore Go.Proofs.YtokblmiamhejjaaDoorW.Help Go.Proofs.YtokblmiamhejjaaDoor.PFnExactChargeText
set_option linter.unusedVariables false

def convRateStep (x : S44) : S38 := ⟨x.f0, x.f1⟩
theorem szRateStepS (l : List S44) (a : Int) (h0 : 0 ≤ a) (h1 : a ≤ 1048576) (hl : l.length ≤ 9223372036854775807) :
    laws_szRateStepS.f l a = some (if a < l.length then -1 else a - l.length) := by
  unfold laws_szRateStepS.f
  rw [w64 (by omega) (by omega)]
  by_cases h : a < l.length
  · rw [if_pos (by omega), if_pos h]
  · rw [if_neg (by omega), if_neg h]
/-- The size: below nought, or no more than a million steps. -/
theorem szCharge (f : Int) (l : List S44) (g a : Int) (h0 : 0 ≤ a) (h1 : a ≤ 1048576) (hl : l.length ≤ 9223372036854775807) :
    ∃ z : Int, laws_szCharge.f f l g a = some z ∧ z ≤ 1048576 ∧ (0 ≤ z → l.length ≤ 1048576) := by
  unfold laws_szCharge.f
  rw [szRateStepS l a h0 h1 hl]
  by_cases h : a < l.length
  · rw [if_pos h]
    exact ⟨-1, rfl, by omega, by omega⟩
  · rw [if_neg h]
    refine ⟨a - l.length, ?_, by omega, by omega⟩
    show (if a - (l.length : Int) < 0 then _ else _) = _
    rw [if_neg (by omega)]
theorem toRateStepS (l : List S44) (hl : l.length ≤ 1048576) : Ev (fun k => laws_toRateStepS.f k l) (l.map convRateStep) := by
  unfold laws_toRateStepS.f
  refine Ev.pos (by omega) (Ev.pos (by omega) ?_)
  simp only [Int.toNat_natCast]
  refine fill_ev l convRateStep z38 (fun k ys i => laws_toRateStepS.l0 k l ys i) ?_ ?_
  · intro i h ys hy r hr
    refine Ev.step (fun k => laws_toRateStepS.l0.eq_2 ..) ?_
    refine Ev.pos (by omega) (Ev.pos (by omega) ?_)
    refine Ev.const (a := (l[i].f0, l[i].f1)) (by simp [laws_toRateStep.f, rd_T44, h]) ?_
    refine Ev.pos (by omega) ?_
    rw [w64 (by omega) (by omega)]
    exact hr
  · intro ys hy
    refine Ev.step (fun k => laws_toRateStepS.l0.eq_2 ..) ?_
    exact Ev.neg (by omega) (Ev.now _)
theorem toCharge (f : Int) (l : List S44) (g : Int) (hl : l.length ≤ 1048576) : Ev (fun k => laws_toCharge.f k f l g) (f, l.map convRateStep, g) := by
  unfold laws_toCharge.f
  exact Ev.bind (toRateStepS l hl) (Ev.now _)
theorem eqRateStepS (l : List S38) (hl : l.length ≤ 1048577) : Ev (fun k => laws_eqRateStepS.f k l l) true := by
  unfold laws_eqRateStepS.f
  refine Ev.pos rfl ?_
  refine down_ev l.length (fun k i => laws_eqRateStepS.l0 k l l i) ?_ ?_
  · intro i h hr
    refine Ev.step (fun k => laws_eqRateStepS.l0.eq_2 ..) ?_
    refine Ev.pos (by omega) (Ev.pos (by omega) (Ev.pos (by omega) ?_))
    refine Ev.const (a := true) (by simp [laws_eqRateStep.f]) ?_
    refine Ev.pos rfl ?_
    rw [w64 (by omega) (by omega)]
    exact hr
  · refine Ev.step (fun k => laws_eqRateStepS.l0.eq_2 ..) ?_
    exact Ev.neg (by omega) (Ev.now _)
theorem eqCharge (f : Int) (l : List S38) (g : Int) (hl : l.length ≤ 1048577) : Ev (fun k => laws_eqCharge.f k f l g f l g) true := by
  unfold laws_eqCharge.f
  exact Ev.pos rfl (Ev.bind (eqRateStepS l hl) (Ev.pos rfl (Ev.pos rfl (Ev.now _))))

theorem l1In_eq (a b c : Int) : spec_l1In.f a b c = some (decide (b ≤ a ∧ a ≤ c)) := by
  unfold spec_l1In.f
  by_cases h : b ≤ a <;> simp [h]

theorem within_eq (a b c : Int) : impl_within.f a b c = some (decide (b ≤ a ∧ a ≤ c)) := by
  unfold impl_within.f
  by_cases h : b ≤ a <;> simp [h]

def stepOk (x : S38) : Prop := (1 ≤ x.f0 ∧ x.f0 ≤ 100) ∧ (0 ≤ x.f1 ∧ x.f1 ≤ 10000)
instance (x : S38) : Decidable (stepOk x) := by unfold stepOk; infer_instance
def Good (f : Int) (st : List S38) (g : Int) : Prop := (0 ≤ f ∧ f ≤ 30) ∧ (1 ≤ (st.length : Int) ∧ (st.length : Int) ≤ 6) ∧ (100 ≤ g ∧ g ≤ 300) ∧ ∀ j : Nat, j < st.length → stepOk (rd_T38 st j)
theorem notOk (x : S38) : impl_IsValidCharge_1.f x.f0 x.f1 = some (!decide (stepOk x)) := by
  unfold impl_IsValidCharge_1.f stepOk
  rw [within_eq, within_eq]
  by_cases h : 1 ≤ x.f0 ∧ x.f0 ≤ 100
  · simp only [h, Option.bind_some, true_and, and_self, decide_true, if_true]
  · simp only [h, Option.bind_some, false_and, decide_false]
    rfl
theorem goodLoop (st : List S38) (hl : st.length ≤ 1048577) (f g : Int) : ∀ d i : Nat, i + d = st.length → ∃ (b : Bool) (q : Int), Ev (fun k => spec_l22Good.l0 k i f st g) b ∧
    Ev (fun k => slices_IndexFunc_impl_RateStep.l0 k st st.length i) q ∧ (!decide (q ≥ 0)) = b ∧ (b = true ↔ ∀ j : Nat, i ≤ j → j < st.length → stepOk (rd_T38 st j)) := by
  intro d
  induction d with
  | zero =>
    intro i hi
    exact ⟨true, -1, Ev.step (fun k => spec_l22Good.l0.eq_2 ..) (Ev.neg (by omega) (Ev.now _)), Ev.step (fun k => slices_IndexFunc_impl_RateStep.l0.eq_2 ..) (Ev.neg (by omega) (Ev.now _)), rfl, ⟨fun _ j h1 h2 => absurd h2 (by omega), fun _ => rfl⟩⟩
  | succ d ih =>
    intro i hi
    have li : (i : Int) < st.length := by omega
    have l0 : (0 : Int) ≤ i := by omega
    have w1 : wrap64 ((i : Int) + 1) = ((i + 1 : Nat) : Int) := by rw [w64 (by omega) (by omega)]; rfl
    have no := notOk (rd_T38 st i)
    by_cases c : stepOk (rd_T38 st i)
    · obtain ⟨b, q, h1, h2, h3, h4⟩ := ih (i + 1) (by omega)
      rw [← w1] at h1 h2
      refine ⟨b, q, ?_, ?_, h3, h4.trans ⟨fun h j j1 j2 => ?_, fun h j j1 j2 => h j (by omega) j2⟩⟩
      · exact Ev.step (fun k => spec_l22Good.l0.eq_2 ..) (Ev.pos li (Ev.pos l0 (Ev.const (l1In_eq _ _ _) (Ev.pos (decide_eq_true c.1) (Ev.const (l1In_eq _ _ _) (Ev.pos (decide_eq_true c.2) h1))))))
      · refine Ev.step (fun k => slices_IndexFunc_impl_RateStep.l0.eq_2 ..) (Ev.pos li (Ev.pos l0 (Ev.pos li (Ev.const no (Ev.neg ?_ h2)))))
        rw [decide_eq_true c]
        exact fun h => by cases h
      · rcases Nat.lt_or_ge i j with q | q
        · exact h j q j2
        · obtain rfl : j = i := by omega
          exact c
    · refine ⟨false, i, ?_, ?_, by simp, ⟨fun h => (by cases h), fun h => absurd (h i (Nat.le_refl _) (by omega)) c⟩⟩
      · refine Ev.step (fun k => spec_l22Good.l0.eq_2 ..) (Ev.pos li (Ev.pos l0 (Ev.const (l1In_eq _ _ _) (Ev.ite (fun h1 => Ev.const (l1In_eq _ _ _) (Ev.neg (fun h2 => c ⟨of_decide_eq_true h1, of_decide_eq_true h2⟩) (Ev.now _))) (fun _ => Ev.now _)))))
      · refine Ev.step (fun k => slices_IndexFunc_impl_RateStep.l0.eq_2 ..) (Ev.pos li (Ev.pos l0 (Ev.pos li (Ev.const no (Ev.pos ?_ (Ev.now _))))))
        rw [decide_eq_false c]
        rfl
/-- Both tests of a charge. -/
theorem good (f : Int) (st : List S38) (hl : st.length ≤ 1048577) (g : Int) : ∃ b : Bool, Ev (fun k => spec_l22Good.f k f st g) b ∧ Ev (fun k => impl_IsValidCharge.f k f st g) b ∧ (b = true ↔ Good f st g) := by
  unfold spec_l22Good.f impl_IsValidCharge.f slices_ContainsFunc_impl_RateStep.f slices_IndexFunc_impl_RateStep.f
  have jt : Ev (fun k => spec_l22Good.j0 k true f st g) false := Ev.step (fun k => spec_l22Good.j0.eq_2 ..) (Ev.pos rfl (Ev.now _))
  by_cases c0 : 0 ≤ f ∧ f ≤ 30
  · by_cases c1 : 1 ≤ (st.length : Int) ∧ (st.length : Int) ≤ 6
    · by_cases c2 : 100 ≤ g ∧ g ≤ 300
      · obtain ⟨b, q, h1, h2, h3, h4⟩ := goodLoop st hl f g st.length 0 (by omega)
        refine ⟨b, Ev.const (l1In_eq _ _ _) (Ev.pos (decide_eq_true c0) (Ev.const (l1In_eq _ _ _) (Ev.pos (decide_eq_true c1) (Ev.const (l1In_eq _ _ _) (Ev.step (fun k => spec_l22Good.j0.eq_2 ..) (Ev.neg ?_ h1)))))),
          Ev.const (within_eq _ _ _) (Ev.pos (decide_eq_true c0) (Ev.const (within_eq _ _ _) (Ev.pos (decide_eq_true c1) (Ev.const (within_eq _ _ _) (Ev.pos (decide_eq_true c2) (Ev.bind (Ev.bind h2 (Ev.now _)) (Ev.eq (Ev.now _) h3))))))), h4.trans ⟨fun h => ⟨c0, c1, c2, fun j hj => h j (by omega) hj⟩, fun h j _ hj => h.2.2.2 j hj⟩⟩
        rw [decide_eq_true c2]
        exact fun h => by cases h
      · refine ⟨false, Ev.const (l1In_eq _ _ _) (Ev.pos (decide_eq_true c0) (Ev.const (l1In_eq _ _ _) (Ev.pos (decide_eq_true c1) (Ev.const (l1In_eq _ _ _) ?_)))),
          Ev.const (within_eq _ _ _) (Ev.pos (decide_eq_true c0) (Ev.const (within_eq _ _ _) (Ev.pos (decide_eq_true c1) (Ev.const (within_eq _ _ _) (Ev.neg (fun h => c2 (of_decide_eq_true h)) (Ev.now _)))))), ⟨fun h => (by cases h), fun h => absurd h.2.2.1 c2⟩⟩
        rw [decide_eq_false c2]
        exact jt
    · exact ⟨false, Ev.const (l1In_eq _ _ _) (Ev.pos (decide_eq_true c0) (Ev.const (l1In_eq _ _ _) (Ev.neg (fun h => c1 (of_decide_eq_true h)) jt))),
          Ev.const (within_eq _ _ _) (Ev.pos (decide_eq_true c0) (Ev.const (within_eq _ _ _) (Ev.neg (fun h => c1 (of_decide_eq_true h)) (Ev.now _)))), ⟨fun h => (by cases h), fun h => absurd h.2.1 c1⟩⟩
  · exact ⟨false, Ev.const (l1In_eq _ _ _) (Ev.neg (fun h => c0 (of_decide_eq_true h)) jt), Ev.const (within_eq _ _ _) (Ev.neg (fun h => c0 (of_decide_eq_true h)) (Ev.now _)), ⟨fun h => (by cases h), fun h => absurd h.1 c0⟩⟩

/-- Texts as lists of bytes. -/
def T (l : List UInt8) : ByteArray := ⟨l.toArray⟩
theorem T_cat (a b : List UInt8) : T a ++ T b = T (a ++ b) := by
  apply ByteArray.ext
  simp [T]
theorem T_of (x : ByteArray) : T x.data.toList = x := by
  apply ByteArray.ext
  simp [T]
theorem T_data (l : List UInt8) : (T l).data.toList = l := by simp [T]
theorem T_size (l : List UInt8) : (T l).size = l.length := by simp [T, ByteArray.size]
theorem digit_all : ∀ i : Fin 10, (⟨#[48, 49, 50, 51, 52, 53, 54, 55, 56, 57]⟩ : ByteArray).extract i.val (i.val + 1) = (⟨#[UInt8.ofNat (48 + i.val)]⟩ : ByteArray) := by decide +kernel
theorem digit (i : Nat) (h : i < 10) : (⟨#[48, 49, 50, 51, 52, 53, 54, 55, 56, 57]⟩ : ByteArray).extract i (i + 1) = T [UInt8.ofNat (48 + i)] := digit_all ⟨i, h⟩
/-- The reference's text of a number is the library's. -/
theorem l1num : ∀ m : Nat, m ≤ 1000000 → Ev (fun k => spec_l1Num.f k (m : Int)) (T (Lib.decDigits m)) ∧ (Lib.decDigits m).length ≤ m + 1 := by
  intro m
  induction m using Nat.strongRecOn with
  | _ m ih =>
    intro hm
    by_cases h : m < 10
    · have w : wrap64 ((m : Int) + 1) = ((m + 1 : Nat) : Int) := by rw [w64 (by omega) (by omega)]; rfl
      rw [Lib.decDigits_one h]
      refine ⟨Ev.step (fun k => spec_l1Num.f.eq_2 ..) (Ev.neg (by omega) (Ev.pos (by omega) (Ev.pos (by omega) ?_))), by simp⟩
      rw [w]
      refine Ev.pos (by omega) (Ev.pos (by omega) (Ev.eq (Ev.now _) ?_))
      rw [Int.toNat_natCast, Int.toNat_natCast]
      exact digit m h
    · obtain ⟨h1, h2⟩ := ih (m / 10) (by omega) (by omega)
      have e1 : wrap64 (Int.tdiv (m : Int) 10) = ((m / 10 : Nat) : Int) := by
        rw [Int.tdiv_eq_ediv_of_nonneg (by omega), w64 (by omega) (by omega)]
        omega
      have e2 : Int.tmod (m : Int) 10 = ((m % 10 : Nat) : Int) := by
        rw [Int.tmod_eq_emod_of_nonneg (by omega)]
        omega
      have w : wrap64 (((m % 10 : Nat) : Int) + 1) = ((m % 10 + 1 : Nat) : Int) := by rw [w64 (by omega) (by omega)]; rfl
      have ed : Lib.decDigits m = Lib.decDigits (m / 10) ++ [UInt8.ofNat (48 + m % 10)] := by rw [Lib.decDigits, dif_neg h]
      have dg := digit (m % 10) (by omega)
      rw [ed]
      refine ⟨Ev.step (fun k => spec_l1Num.f.eq_2 ..) (Ev.neg (by omega) (Ev.neg (by omega) ?_)), by rw [List.length_append]; simp; omega⟩
      rw [e1, e2]
      refine Ev.bind h1 (Ev.pos (by omega) ?_)
      rw [w]
      refine Ev.pos (by omega) (Ev.pos (by omega) ?_)
      rw [Int.toNat_natCast, Int.toNat_natCast, dg]
      refine Ev.pos (by rw [T_size, T_size]; simp; omega) (Ev.eq (Ev.now _) (T_cat _ _))
/-- A number's text. -/
def NI (x : Int) : ByteArray := T (Lib.decDigits x.toNat)
theorem NI_size (x : Int) (h0 : 0 ≤ x) (h1 : x ≤ 1000000) : (NI x).size ≤ 1000001 := by
  have := (l1num x.toNat (by omega)).2
  unfold NI
  rw [T_size]
  omega
theorem num_spec (x : Int) (h0 : 0 ≤ x) (h1 : x ≤ 1000000) : Ev (fun k => spec_l1Num.f k x) (NI x) := by
  have := (l1num x.toNat (by omega)).1
  rw [Int.toNat_of_nonneg h0] at this
  exact this
theorem num_impl (x : Int) (h0 : 0 ≤ x) (h1 : x ≤ 1000000) : impl_decimal.f x = some (NI x) := by
  unfold impl_decimal.f strconv_Itoa_25.f
  rw [if_pos ⟨by omega, by omega⟩]
  unfold Lib.itoa
  rw [if_neg (by omega)]
  rfl

/-- Texts joined by a comma and a blank. -/
def J (ps : List ByteArray) : ByteArray := T (Lib.join (ps.map (·.data.toList)) [44, 32])
theorem J_one (x : ByteArray) : J [x] = x := by
  unfold J
  rw [List.map_cons, List.map_nil, Lib.join_one]
  exact T_of x
theorem J_snoc (p : ByteArray) (ps : List ByteArray) (x : ByteArray) : J ((p :: ps) ++ [x]) = (J (p :: ps) ++ (⟨#[44, 32]⟩ : ByteArray)) ++ x := by
  unfold J
  rw [List.cons_append, List.map_cons, List.map_cons, List.map_append, Lib.join_cons, Lib.join_cons]
  have e : Lib.joinTail [44, 32] (ps.map (·.data.toList) ++ [x].map (·.data.toList)) = Lib.joinTail [44, 32] (ps.map (·.data.toList)) ++ ([44, 32] ++ x.data.toList) := by
    unfold Lib.joinTail
    rw [List.map_append, List.flatten_append]
    simp
  rw [e]
  show _ = (T _ ++ T [44, 32]) ++ x
  rw [T_cat, ← T_of x, T_cat, T_data]
  simp only [List.append_assoc]
theorem join_J (ps : List ByteArray) (h : ps.length ≤ 100) (hs : (J ps).size ≤ 1000000000) : strings_Join.f ps (⟨#[44, 32]⟩ : ByteArray) = some (J ps) := by
  have e : (J ps).size = (Lib.join (ps.map (·.data.toList)) [44, 32]).length := T_size _
  unfold strings_Join.f
  show (if ps.length ≤ 140737488355328 ∧ (Lib.join (ps.map (·.data.toList)) [44, 32]).length ≤ 140737488355328 then some (J ps) else none) = _
  rw [if_pos ⟨by omega, by omega⟩]
/-- The parts of the text of a charge: the first n steps. -/
def stepText (st : List S38) (j : Nat) : ByteArray := (NI (rd_T38 st j).f0 ++ (⟨#[32, 120, 32]⟩ : ByteArray)) ++ NI (rd_T38 st j).f1
def P (f : Int) (st : List S38) (n : Nat) : List ByteArray := (NI f ++ (⟨#[32, 102, 114, 101, 101]⟩ : ByteArray)) :: (List.range n).map (stepText st)
theorem P_succ (f : Int) (st : List S38) (n : Nat) : P f st (n + 1) = P f st n ++ [stepText st n] := by
  unfold P
  rw [List.range_succ, List.map_append]
  rfl
theorem sizes (A d e : ByteArray) (hA : A.size ≤ 100000000) (hd : d.size ≤ 1000001) (he : e.size ≤ 1000001) : A.size + 2 ≤ 9223372036854775807 ∧ (A ++ (⟨#[44, 32]⟩ : ByteArray)).size + d.size ≤ 9223372036854775807 ∧
    ((A ++ (⟨#[44, 32]⟩ : ByteArray)) ++ d).size + 3 ≤ 9223372036854775807 ∧ (((A ++ (⟨#[44, 32]⟩ : ByteArray)) ++ d) ++ (⟨#[32, 120, 32]⟩ : ByteArray)).size + e.size ≤ 9223372036854775807 ∧ d.size + 3 ≤ 9223372036854775807 ∧ (d ++ (⟨#[32, 120, 32]⟩ : ByteArray)).size + e.size ≤ 9223372036854775807 := by
  have z3 : (⟨#[32, 120, 32]⟩ : ByteArray).size = 3 := rfl
  have z2 : (⟨#[44, 32]⟩ : ByteArray).size = 2 := rfl
  simp only [ByteArray.size_append, z2, z3]
  generalize A.size = a at *
  generalize d.size = b at *
  generalize e.size = c at *
  omega
theorem chargeTexts (f : Int) (st : List S38) (g : Int) (hg : Good f st g) : ∃ s : ByteArray, Ev (fun k => spec_ChargeText.l0 k (NI f ++ (⟨#[32, 102, 114, 101, 101]⟩ : ByteArray)) 0 f st g) (s, true) ∧ Ev (fun k => impl_chargeText.f k f st g) s := by
  obtain ⟨hf, hn, hgg, hst⟩ := hg
  have hle : st.length ≤ 6 := by have := hn.2; omega
  have hb : ∀ A i : Nat, i < 6 → A ≤ 3000000 * (i + 1) → A ≤ 100000000 := fun A i hi h => by omega
  have hpl : ∀ A i : Nat, i < 6 → A = i + 1 → A < 8796093022208 := fun A i hi h => by omega
  have s0 := NI_size f hf.1 (by omega)
  have z5 : (⟨#[32, 102, 114, 101, 101]⟩ : ByteArray).size = 5 := rfl
  have z3 : (⟨#[32, 120, 32]⟩ : ByteArray).size = 3 := rfl
  have z2 : (⟨#[44, 32]⟩ : ByteArray).size = 2 := rfl
  have z6 : (⟨#[108, 97, 114, 103, 101, 32]⟩ : ByteArray).size = 6 := rfl
  have z8 : (⟨#[44, 32, 108, 97, 114, 103, 101, 32]⟩ : ByteArray).size = 8 := rfl
  have sg := NI_size g (by omega) (by omega)
  have e8 : (⟨#[44, 32, 108, 97, 114, 103, 101, 32]⟩ : ByteArray) = (⟨#[44, 32]⟩ : ByteArray) ++ (⟨#[108, 97, 114, 103, 101, 32]⟩ : ByteArray) := (T_cat [44, 32] [108, 97, 114, 103, 101, 32]).symm
  let last : ByteArray := (⟨#[108, 97, 114, 103, 101, 32]⟩ : ByteArray) ++ NI g
  have sz : ∀ n : Nat, n ≤ st.length → (J (P f st n)).size ≤ 3000000 * (n + 1) := by
    intro n
    induction n with
    | zero =>
      intro _
      show (J [_]).size ≤ _
      rw [J_one, ByteArray.size_append, z5]
      omega
    | succ n ih =>
      intro h
      have h1 := ih (by omega)
      have h2 := hst n (by omega)
      have q0 := NI_size (rd_T38 st n).f0 (by have := h2.1.1; omega) (by have := h2.1.2; omega)
      have q1 := NI_size (rd_T38 st n).f1 h2.2.1 (by have := h2.2.2; omega)
      rw [P_succ, show P f st n = (NI f ++ (⟨#[32, 102, 114, 101, 101]⟩ : ByteArray)) :: (List.range n).map (stepText st) from rfl, J_snoc, ← show P f st n = (NI f ++ (⟨#[32, 102, 114, 101, 101]⟩ : ByteArray)) :: (List.range n).map (stepText st) from rfl]
      simp only [stepText, ByteArray.size_append, z2, z3]
      omega
  have fin : ∀ n : Nat, J (P f st n ++ [last]) = (J (P f st n) ++ (⟨#[44, 32, 108, 97, 114, 103, 101, 32]⟩ : ByteArray)) ++ NI g := by
    intro n
    rw [show P f st n = (NI f ++ (⟨#[32, 102, 114, 101, 101]⟩ : ByteArray)) :: (List.range n).map (stepText st) from rfl, J_snoc, e8]
    show _ ++ ((⟨#[108, 97, 114, 103, 101, 32]⟩ : ByteArray) ++ NI g) = _
    simp only [ByteArray.append_assoc]
  have nx : ∀ n : Nat, J (P f st (n + 1)) = (((J (P f st n) ++ (⟨#[44, 32]⟩ : ByteArray)) ++ NI (rd_T38 st n).f0) ++ (⟨#[32, 120, 32]⟩ : ByteArray)) ++ NI (rd_T38 st n).f1 := by
    intro n
    rw [P_succ, show P f st n = (NI f ++ (⟨#[32, 102, 114, 101, 101]⟩ : ByteArray)) :: (List.range n).map (stepText st) from rfl, J_snoc]
    show _ ++ ((NI (rd_T38 st n).f0 ++ (⟨#[32, 120, 32]⟩ : ByteArray)) ++ NI (rd_T38 st n).f1) = _
    simp only [ByteArray.append_assoc]
  have S : ∀ d i : Nat, i + d = st.length → Ev (fun k => spec_ChargeText.l0 k (J (P f st i)) i f st g) (J (P f st st.length ++ [last]), true) := by
    intro d
    induction d with
    | zero =>
      intro i hi
      obtain rfl : i = st.length := by omega
      have h1 := sz st.length (Nat.le_refl _)
      refine Ev.step (fun k => spec_ChargeText.l0.eq_2 ..) (Ev.neg (by omega) (Ev.pos (by omega) (Ev.bind (num_spec g (by omega) (by omega)) (Ev.pos (by rw [ByteArray.size_append, z8]; omega) (Ev.eq (Ev.now _) ?_)))))
      rw [fin]
    | succ d ih =>
      intro i hi
      have i6 : i < 6 := by omega
      have i7 : i ≤ st.length := by omega
      have li : (i : Int) < st.length := by omega
      have i0 : (0 : Int) ≤ i := by omega
      have w1 : wrap64 ((i : Int) + 1) = ((i + 1 : Nat) : Int) := by rw [w64 (by omega) (by omega)]; rfl
      have h2 := hst i (by omega)
      have hd0 : 0 ≤ (rd_T38 st i).f0 := Int.le_trans (by decide) h2.1.1
      have hd1 : (rd_T38 st i).f0 ≤ 1000000 := Int.le_trans h2.1.2 (by decide)
      have hr1 : (rd_T38 st i).f1 ≤ 1000000 := Int.le_trans h2.2.2 (by decide)
      have hz := sizes (J (P f st i)) (NI (rd_T38 st i).f0) (NI (rd_T38 st i).f1) (hb _ i i6 (sz i i7)) (NI_size _ hd0 hd1) (NI_size _ h2.2.1 hr1)
      have := ih (i + 1) (by omega)
      rw [nx, ← w1] at this
      exact Ev.step (fun k => spec_ChargeText.l0.eq_2 ..) (Ev.pos li (Ev.pos hz.1 (Ev.pos i0 (Ev.bind (num_spec _ hd0 hd1) (Ev.pos hz.2.1 (Ev.pos hz.2.2.1 (Ev.bind (num_spec _ h2.2.1 hr1) (Ev.pos hz.2.2.2.1 this))))))))
  have pl : ∀ n : Nat, (P f st n).length = n + 1 := fun n => by unfold P; simp
  have I : ∀ d i : Nat, i + d = st.length → Ev (fun k => impl_chargeText.l0 k (P f st i) st st.length i f st g) (J (P f st st.length ++ [last])) := by
    intro d
    induction d with
    | zero =>
      intro i hi
      obtain rfl : i = st.length := by omega
      have h1 := sz st.length (Nat.le_refl _)
      have p1 := pl st.length
      have jj := join_J (P f st st.length ++ [last]) (by rw [List.length_append, p1]; simp; omega) (by rw [fin, ByteArray.size_append, ByteArray.size_append, z8]; omega)
      exact Ev.step (fun k => impl_chargeText.l0.eq_2 ..) (Ev.neg (by omega) (Ev.const (num_impl g (by omega) (by omega)) (Ev.pos (by omega) (Ev.pos (by omega) (Ev.const jj (Ev.now _))))))
    | succ d ih =>
      intro i hi
      have i6 : i < 6 := by omega
      have i7 : i ≤ st.length := by omega
      have li : (i : Int) < st.length := by omega
      have i0 : (0 : Int) ≤ i := by omega
      have w1 : wrap64 ((i : Int) + 1) = ((i + 1 : Nat) : Int) := by rw [w64 (by omega) (by omega)]; rfl
      have hp : (P f st i).length < 8796093022208 := hpl _ i i6 (pl i)
      have h2 := hst i (by omega)
      have hd0 : 0 ≤ (rd_T38 st i).f0 := Int.le_trans (by decide) h2.1.1
      have hd1 : (rd_T38 st i).f0 ≤ 1000000 := Int.le_trans h2.1.2 (by decide)
      have hr1 : (rd_T38 st i).f1 ≤ 1000000 := Int.le_trans h2.2.2 (by decide)
      have hz := sizes (J (P f st i)) (NI (rd_T38 st i).f0) (NI (rd_T38 st i).f1) (hb _ i i6 (sz i i7)) (NI_size _ hd0 hd1) (NI_size _ h2.2.1 hr1)
      have := ih (i + 1) (by omega)
      rw [P_succ, ← w1] at this
      exact Ev.step (fun k => impl_chargeText.l0.eq_2 ..) (Ev.pos li (Ev.pos i0 (Ev.pos li (Ev.const (num_impl _ hd0 hd1) (Ev.pos hz.2.2.2.2.1 (Ev.const (num_impl _ h2.2.1 hr1) (Ev.pos hz.2.2.2.2.2 (Ev.pos hp this))))))))
  have S0 := S st.length 0 (by omega)
  rw [show J (P f st 0) = NI f ++ (⟨#[32, 102, 114, 101, 101]⟩ : ByteArray) from J_one _] at S0
  refine ⟨_, S0, ?_⟩
  unfold impl_chargeText.f
  exact Ev.const (num_impl f hf.1 (by omega)) (Ev.pos (by omega) (I st.length 0 (by omega)))
theorem chargeTextBoth (f : Int) (st : List S38) (hl : st.length ≤ 1048577) (g : Int) : ∃ r : ByteArray × Bool, Ev (fun k => spec_ChargeText.f k f st g) r ∧ Ev (fun k => impl_ChargeText.f k f st g) r := by
  obtain ⟨b, b1, b2, b3⟩ := good f st hl g
  unfold spec_ChargeText.f impl_ChargeText.f
  by_cases cb : b = true
  · have hg := b3.1 cb
    obtain ⟨s, s1, s2⟩ := chargeTexts f st g hg
    have s0 := NI_size f hg.1.1 (by have := hg.1.2; omega)
    exact ⟨(s, true), Ev.bind b1 (Ev.pos cb (Ev.bind (num_spec f hg.1.1 (by have := hg.1.2; omega)) (Ev.pos (by omega) s1))), Ev.bind b2 (Ev.pos cb (Ev.bind s2 (Ev.now _)))⟩
  · exact ⟨((⟨#[]⟩ : ByteArray), false), Ev.bind b1 (Ev.neg cb (Ev.now _)), Ev.bind b2 (Ev.neg cb (Ev.now _))⟩

theorem FnExactChargeText : ∀ (y0 : S24), inv24 y0 → ∃ k, laws_FnExactChargeText.f k y0.f0 y0.f1 y0.f2 = some true := by
  intro y0 hy
  refine Ev.rounds ?_
  unfold laws_FnExactChargeText.f
  obtain ⟨z, z1, _, z2⟩ := szCharge y0.f0 y0.f1 y0.f2 1048576 (by omega) (by omega) hy.2.1.1
  refine Ev.const z1 ?_
  by_cases hz : z < 0
  · exact Ev.pos hz (Ev.now _)
  · refine Ev.neg hz ?_
    have hn := z2 (by omega)
    have hm : (y0.f1.map convRateStep).length ≤ 1048577 := by simp; omega
    obtain ⟨r, r1, r2⟩ := chargeTextBoth y0.f0 (y0.f1.map convRateStep) hm y0.f2
    have tv := toCharge y0.f0 y0.f1 y0.f2 hn
    refine Ev.bind tv (Ev.bind r1 (Ev.bind tv (Ev.bind r2 (Ev.pos rfl ?_))))
    exact Ev.step (fun k => laws_FnExactChargeText.j0.eq_2 ..) (Ev.neg (by simp) (Ev.bind tv (Ev.bind (eqCharge _ _ _ hm) (Ev.pos rfl (Ev.now _)))))
end Go.Proofs.YtokblmiamhejjaaDoor.Pure
