/- The drawn readings: temperatures are recovered from their texts, the longest alarm begins and ends with bad readings, and a reading that is added is there. No condition beyond the listed variables' data, which the card ties to the program's text. -/
import Derived.Test.YtpelcaijjdgnoaaDoorInvFnReadings
import Derived.Test.YtpelcaijjdgnoaaDoorWHelp
import Derived.Lib.Zigzag
namespace Go.Proofs.YtpelcaijjdgnoaaDoor.Pure
open Go.RowKit Go.Proofs.YtpelcaijjdgnoaaDoorW.PrintWords Go.Proofs.YtpelcaijjdgnoaaDoorW.PrintLast Go.Proofs.YtpelcaijjdgnoaaDoorW.PrintMore Go.Proofs.YtpelcaijjdgnoaaDoorW.Help Go.Proofs.YtpelcaijjdgnoaaDoor.PFnReadings
set_option linter.unusedVariables false

theorem l1In_eq (a b c : Int) : spec_l1In.f a b c = some (decide (b ≤ a ∧ a ≤ c)) := by
  unfold spec_l1In.f
  by_cases h : b ≤ a <;> simp [h]

theorem within_eq (a b c : Int) : impl_within.f a b c = some (decide (b ≤ a ∧ a ≤ c)) := by
  unfold impl_within.f
  by_cases h : b ≤ a <;> simp [h]

theorem str_ext {s t : ByteArray} (h : s.data.toList = t.data.toList) : s = t := by
  obtain ⟨⟨a⟩⟩ := s
  obtain ⟨⟨b⟩⟩ := t
  have h' : a = b := h
  rw [h']
theorem str_eq {s t : ByteArray} : s.toList = t.toList ↔ s = t := by
  rw [ByteArray.toList_eq, ByteArray.toList_eq]
  exact ⟨str_ext, fun h => by rw [h]⟩

theorem num_all : ∀ x : Fin 41, impl_decimal.f (x.val : Int) = spec_l1Num.f 2 (x.val : Int) ∧ (match impl_decimal.f (x.val : Int) with | some s => decide (s.size ≤ 2) | none => false) = true := by decide +kernel
theorem num (n : Int) (h0 : 0 ≤ n) (h1 : n ≤ 40) : ∃ s : ByteArray, s.size ≤ 2 ∧ impl_decimal.f n = some s ∧ Ev (fun k => spec_l1Num.f k n) s := by
  have h := num_all ⟨n.toNat, by omega⟩
  simp only [Int.toNat_of_nonneg h0] at h
  obtain ⟨e, hs⟩ := h
  cases hd : impl_decimal.f n with
  | none => rw [hd] at hs; cases hs
  | some s =>
    rw [hd] at hs e
    refine ⟨s, of_decide_eq_true hs, rfl, 2, fun k hk => ?_⟩
    induction k with
    | zero => omega
    | succ k ih =>
      rcases Nat.lt_or_ge k 2 with q | q
      · obtain rfl : k = 1 := by omega
        exact e.symm
      · exact spec_l1Num.mono n k s (ih q)
theorem sz1 (x : UInt8) : (⟨#[x]⟩ : ByteArray).size = 1 := rfl
/-- Both texts of a temperature. -/
theorem tenthBoth (t : Int) (h0 : -400 ≤ t) (h1 : t ≤ 400) : ∃ s : ByteArray, Ev (fun k => spec_l21Text.f k t) s ∧ impl_tenthText.f t = some s := by
  unfold spec_l21Text.f impl_tenthText.f impl_size.f
  have wn : wrap64 (-t) = -t := w64 (by omega) (by omega)
  rw [wn]
  by_cases c : t < 0
  · have em : mx t (-t) = -t := by unfold mx; split <;> omega
    have e1 : Int.tdiv (-t) 10 = -t / 10 := Int.tdiv_eq_ediv_of_nonneg (by omega)
    have e2 : Int.tmod (-t) 10 = -t % 10 := Int.tmod_eq_emod_of_nonneg (by omega)
    have e3 : wrap64 (-t / 10) = -t / 10 := w64 (by omega) (by omega)
    obtain ⟨a, a1, a2, a3⟩ := num (-t / 10) (by omega) (by omega)
    obtain ⟨b, b1, b2, b3⟩ := num (-t % 10) (by omega) (by omega)
    refine ⟨((⟨#[45]⟩ ++ a) ++ ⟨#[46]⟩) ++ b, Ev.pos c ?_, ?_⟩
    · rw [e1, e2, e3]
      exact Ev.bind a3 (Ev.pos (by omega) (Ev.pos (by simp only [ByteArray.size_append, sz1]; omega) (Ev.bind b3 (Ev.pos (by simp only [ByteArray.size_append, sz1]; omega) (Ev.now _)))))
    · rw [if_pos c, em]
      show ((impl_decimal.f (wrap64 (Int.tdiv (-t) 10))).bind _) = _
      rw [e1, e3, a2, Option.bind_some, if_pos (by omega), if_pos (by simp only [ByteArray.size_append, sz1]; omega), e2, b2, Option.bind_some, if_pos (by simp only [ByteArray.size_append, sz1]; omega)]
  · have em : mx t (-t) = t := by unfold mx; split <;> omega
    have e1 : Int.tdiv t 10 = t / 10 := Int.tdiv_eq_ediv_of_nonneg (by omega)
    have e2 : Int.tmod t 10 = t % 10 := Int.tmod_eq_emod_of_nonneg (by omega)
    have e3 : wrap64 (t / 10) = t / 10 := w64 (by omega) (by omega)
    obtain ⟨a, a1, a2, a3⟩ := num (t / 10) (by omega) (by omega)
    obtain ⟨b, b1, b2, b3⟩ := num (t % 10) (by omega) (by omega)
    have sz0 : (⟨#[]⟩ : ByteArray).size = 0 := rfl
    refine ⟨((⟨#[]⟩ ++ a) ++ ⟨#[46]⟩) ++ b, Ev.neg c ?_, ?_⟩
    · rw [e1, e2, e3]
      exact Ev.bind a3 (Ev.pos (by omega) (Ev.pos (by simp only [ByteArray.size_append, sz0]; omega) (Ev.bind b3 (Ev.pos (by simp only [ByteArray.size_append, sz1, sz0]; omega) (Ev.now _)))))
    · rw [if_neg c, em]
      show ((impl_decimal.f (wrap64 (Int.tdiv t 10))).bind _) = _
      rw [e1, e3, a2, Option.bind_some, if_pos (by omega), if_pos (by simp only [ByteArray.size_append, sz0]; omega), e2, b2, Option.bind_some, if_pos (by simp only [ByteArray.size_append, sz1, sz0]; omega)]


/-- Reading i of a log is as it should be. -/
def vR (xs : List S41) (i : Nat) : Prop := (0 ≤ (rd_T41 xs i).f0 ∧ (rd_T41 xs i).f0 ≤ 240) ∧ (-400 ≤ (rd_T41 xs i).f1 ∧ (rd_T41 xs i).f1 ≤ 400) ∧ (0 < i → (rd_T41 xs ((i : Int) - 1)).f0 < (rd_T41 xs i).f0)
/-- A valid log. -/
def Log (xs : List S41) : Prop := xs.length ≤ 20 ∧ ∀ i, i < xs.length → vR xs i

theorem readings_at (xs : List S41) (hl : xs.length ≤ 1048576) : ∀ d i : Nat, i + d = xs.length → ∃ b : Bool, Ev (fun k => spec_l21Good.l0 k xs i) b ∧ Ev (fun k => impl_IsValidReadings.l0 k xs xs xs.length i) b ∧
    (b = true ↔ xs.length ≤ 20 ∧ ∀ j, i ≤ j → j < xs.length → vR xs j) := by
  intro d
  induction d with
  | zero =>
    intro i hi
    refine ⟨decide ((xs.length : Int) ≤ 20), Ev.step (fun k => spec_l21Good.l0.eq_2 ..) (Ev.neg (by omega) (Ev.now _)), Ev.step (fun k => impl_IsValidReadings.l0.eq_2 ..) (Ev.neg (by omega) (Ev.now _)), ?_⟩
    rw [decide_eq_true_iff]
    exact ⟨fun h => ⟨by omega, fun j h1 h2 => by omega⟩, fun h => by omega⟩
  | succ d ih =>
    intro i hi
    have w1 : wrap64 ((i : Int) + 1) = ((i + 1 : Nat) : Int) := by rw [w64 (by omega) (by omega)]; rfl
    obtain ⟨b, s1, s2, s3⟩ := ih (i + 1) (by omega)
    have sp : ∀ r, Ev _ r → Ev (fun k => spec_l21Good.l0 k xs i) r := fun r hr => Ev.step (fun k => spec_l21Good.l0.eq_2 ..) (Ev.pos (by omega) (Ev.pos (by omega) (Ev.const (l1In_eq _ _ _) hr)))
    have im : ∀ r, Ev _ r → Ev (fun k => impl_IsValidReadings.l0 k xs xs xs.length i) r := fun r hr => Ev.step (fun k => impl_IsValidReadings.l0.eq_2 ..) (Ev.pos (by omega) (Ev.pos (by omega) (Ev.pos (by omega) (Ev.const (within_eq _ _ _) hr))))
    rw [w1] at sp im
    have no : ∀ h : ¬ vR xs i, ((false : Bool) = true ↔ xs.length ≤ 20 ∧ ∀ j, i ≤ j → j < xs.length → vR xs j) := fun h => ⟨(fun q => by cases q), fun h' => absurd (h'.2 i (by omega) (by omega)) h⟩
    by_cases c1 : 0 ≤ (rd_T41 xs i).f0 ∧ (rd_T41 xs i).f0 ≤ 240
    · by_cases c2 : -400 ≤ (rd_T41 xs i).f1 ∧ (rd_T41 xs i).f1 ≤ 400
      · by_cases c3 : (i : Int) > 0
        · have w2 : wrap64 ((i : Int) - 1) = (i : Int) - 1 := w64 (by omega) (by omega)
          rw [w2] at sp im
          by_cases c4 : (rd_T41 xs i).f0 ≤ (rd_T41 xs ((i : Int) - 1)).f0
          · exact ⟨false, sp _ (Ev.pos (by simp [c1]) (Ev.const (l1In_eq _ _ _) (Ev.pos (by simp [c2]) (Ev.pos c3 (Ev.pos (by omega) (Ev.pos (by omega) (Ev.pos c4 (Ev.now _)))))))),
              im _ (Ev.pos (by simp [c1]) (Ev.const (within_eq _ _ _) (Ev.pos (by simp [c2]) (Ev.pos c3 (Ev.pos (by omega) (Ev.pos (by omega) (Ev.pos c4 (Ev.now _)))))))), no (fun h => by have := h.2.2 (by omega); omega)⟩
          · refine ⟨b, sp _ (Ev.pos (by simp [c1]) (Ev.const (l1In_eq _ _ _) (Ev.pos (by simp [c2]) (Ev.pos c3 (Ev.pos (by omega) (Ev.pos (by omega) (Ev.neg (by omega) s1))))))),
              im _ (Ev.pos (by simp [c1]) (Ev.const (within_eq _ _ _) (Ev.pos (by simp [c2]) (Ev.pos c3 (Ev.pos (by omega) (Ev.pos (by omega) (Ev.neg (by omega) s2))))))), ?_⟩
            rw [s3]
            refine ⟨fun h => ⟨h.1, fun j h1 h2 => ?_⟩, fun h => ⟨h.1, fun j h1 h2 => h.2 j (by omega) h2⟩⟩
            rcases Nat.lt_or_ge i j with hj | hj
            · exact h.2 j hj h2
            · obtain rfl : j = i := by omega
              exact ⟨c1, c2, fun _ => by omega⟩
        · refine ⟨b, sp _ (Ev.pos (by simp [c1]) (Ev.const (l1In_eq _ _ _) (Ev.pos (by simp [c2]) (Ev.neg c3 s1)))), im _ (Ev.pos (by simp [c1]) (Ev.const (within_eq _ _ _) (Ev.pos (by simp [c2]) (Ev.neg c3 s2)))), ?_⟩
          rw [s3]
          refine ⟨fun h => ⟨h.1, fun j h1 h2 => ?_⟩, fun h => ⟨h.1, fun j h1 h2 => h.2 j (by omega) h2⟩⟩
          rcases Nat.lt_or_ge i j with hj | hj
          · exact h.2 j hj h2
          · obtain rfl : j = i := by omega
            exact ⟨c1, c2, fun _ => by omega⟩
      · exact ⟨false, sp _ (Ev.pos (by simp [c1]) (Ev.const (l1In_eq _ _ _) (Ev.neg (by simp; omega) (Ev.now _)))), im _ (Ev.pos (by simp [c1]) (Ev.const (within_eq _ _ _) (Ev.neg (by simp; omega) (Ev.now _)))), no (fun h => c2 h.2.1)⟩
    · exact ⟨false, sp _ (Ev.neg (by simp; omega) (Ev.now _)), im _ (Ev.neg (by simp; omega) (Ev.now _)), no (fun h => c1 h.1)⟩

theorem readings (xs : List S41) (hl : xs.length ≤ 1048576) : ∃ b : Bool, Ev (fun k => spec_l21Good.f k xs) b ∧ Ev (fun k => impl_IsValidReadings.f k xs) b ∧ (b = true ↔ Log xs) := by
  obtain ⟨b, h1, h2, h3⟩ := readings_at xs hl xs.length 0 (by omega)
  exact ⟨b, h1, h2, h3.trans ⟨fun h => ⟨h.1, fun i hi => h.2 i (by omega) hi⟩, fun h => ⟨h.1, fun j _ hj => h.2 j hj⟩⟩⟩

/-- A valid log, a setting and a tolerance: the reference's test and the program's. -/
theorem setting (xs : List S41) (hl : xs.length ≤ 1048576) (s t : Int) : ∃ b : Bool, Ev (fun k => spec_l21Asked.f k xs s t) b ∧ Ev (fun k => impl_isSetting.f k xs s t) b ∧ (b = true ↔ Log xs ∧ (-300 ≤ s ∧ s ≤ 300) ∧ (0 ≤ t ∧ t ≤ 100)) := by
  obtain ⟨b, h1, h2, h3⟩ := readings xs hl
  unfold spec_l21Asked.f impl_isSetting.f
  by_cases hb : b = true
  · subst hb
    by_cases c1 : -300 ≤ s ∧ s ≤ 300
    · by_cases c2 : 0 ≤ t ∧ t ≤ 100
      · exact ⟨true, Ev.bind h1 (Ev.pos rfl (Ev.const (l1In_eq _ _ _) (Ev.pos (by simp [c1]) (Ev.const (l1In_eq _ _ _) (Ev.eq (Ev.now _) (by simp [c2])))))), Ev.bind h2 (Ev.pos rfl (Ev.const (within_eq _ _ _) (Ev.pos (by simp [c1]) (Ev.const (within_eq _ _ _) (Ev.eq (Ev.now _) (by simp [c2])))))), fun _ => ⟨h3.1 rfl, c1, c2⟩, fun _ => rfl⟩
      · exact ⟨false, Ev.bind h1 (Ev.pos rfl (Ev.const (l1In_eq _ _ _) (Ev.pos (by simp [c1]) (Ev.const (l1In_eq _ _ _) (Ev.eq (Ev.now _) (by simp; omega)))))), Ev.bind h2 (Ev.pos rfl (Ev.const (within_eq _ _ _) (Ev.pos (by simp [c1]) (Ev.const (within_eq _ _ _) (Ev.eq (Ev.now _) (by simp; omega)))))), (fun h => by cases h), fun h => absurd h.2.2 c2⟩
    · exact ⟨false, Ev.bind h1 (Ev.pos rfl (Ev.const (l1In_eq _ _ _) (Ev.neg (by simp; omega) (Ev.now _)))), Ev.bind h2 (Ev.pos rfl (Ev.const (within_eq _ _ _) (Ev.neg (by simp; omega) (Ev.now _)))), (fun h => by cases h), fun h => absurd h.2.1 c1⟩
  · exact ⟨false, Ev.bind h1 (Ev.neg hb (Ev.now _)), Ev.bind h2 (Ev.neg hb (Ev.now _)), (fun h => by cases h), fun h => absurd (h3.2 h.1) hb⟩
/-- Is a reading good? -/
def fine (x : S41) (s t : Int) : Prop := s - t ≤ x.f1 ∧ x.f1 ≤ s + t
instance (x : S41) (s t : Int) : Decidable (fine x s t) := by unfold fine; infer_instance
theorem fine_eq (x : S41) (s t : Int) (hs : -300 ≤ s ∧ s ≤ 300) (ht : 0 ≤ t ∧ t ≤ 100) : spec_l21Fine.f x.f0 x.f1 x.f2 s t = some (decide (fine x s t)) := by
  unfold spec_l21Fine.f
  rw [w64 (by omega) (by omega), w64 (by omega) (by omega), l1In_eq]
  rfl
theorem size_eq (x : S41) (s t : Int) (hx : -400 ≤ x.f1 ∧ x.f1 ≤ 400) (hs : -300 ≤ s ∧ s ≤ 300) : ∃ z, impl_size.f (wrap64 (x.f1 - s)) = some z ∧ (z ≤ t ↔ fine x s t) := by
  refine ⟨_, rfl, ?_⟩
  unfold fine mx
  rw [w64 (x := x.f1 - s) (by omega) (by omega), w64 (x := -(x.f1 - s)) (by omega) (by omega)]
  split <;> omega


theorem rise_at (xs : List S41) (hv : ∀ i, i < xs.length → vR xs i) (i j : Nat) (hij : i ≤ j) (hj : j < xs.length) : (rd_T41 xs i).f0 ≤ (rd_T41 xs j).f0 := by
  induction j with
  | zero =>
    obtain rfl : i = 0 := by omega
    omega
  | succ j ih =>
    rcases Nat.lt_or_ge j i with h | h
    · obtain rfl : i = j + 1 := by omega
      omega
    · have := ih h (by omega)
      have h3 := (hv (j + 1) hj).2.2 (by omega)
      rw [show (((j + 1 : Nat) : Int) - 1) = (j : Int) by omega] at h3
      omega


/-- What a run from hour f to hour h makes of the longest one so far. -/
def upd (f h from_ to_ : Int) (found : Bool) : Int × Int × Bool := if found = true ∧ h - f ≤ to_ - from_ then (from_, to_, found) else (f, h, true)

/-- One round of the program: a good reading. -/
theorem im_fine (xs : List S41) (s t : Int) (hl : xs.length ≤ 20) (hv : ∀ i, i < xs.length → vR xs i) (hs : -300 ≤ s ∧ s ≤ 300) (i : Nat) (hi : i < xs.length) (hf : fine (rd_T41 xs i) s t) (a b c : Int) (f : Bool) (r : Int × Int × Bool) (h : Ev (fun k => impl_LongestAlarm.l0 k s t a b f (-1) xs xs.length ((i + 1 : Nat) : Int)) r) :
    Ev (fun k => impl_LongestAlarm.l0 k s t a b f c xs xs.length (i : Int)) r := by
  obtain ⟨z, hz, hzf⟩ := size_eq (rd_T41 xs i) s t (hv i hi).2.1 hs
  have w1 : wrap64 ((i : Int) + 1) = ((i + 1 : Nat) : Int) := by rw [w64 (by omega) (by omega)]; rfl
  refine Ev.step (fun k => impl_LongestAlarm.l0.eq_2 ..) (Ev.pos (by omega) (Ev.pos (by omega) (Ev.pos (by omega) (Ev.const hz (Ev.pos (hzf.2 hf) ?_)))))
  rw [w1]
  exact h
/-- One round of the program: a bad reading behind a good one, or the first. -/
theorem im_first (xs : List S41) (s t : Int) (hl : xs.length ≤ 20) (hv : ∀ i, i < xs.length → vR xs i) (hs : -300 ≤ s ∧ s ≤ 300) (i : Nat) (hi : i < xs.length) (hf : ¬ fine (rd_T41 xs i) s t) (a b c : Int) (hc : c < 0) (hab : a ≤ b ∧ b - a ≤ 240) (f : Bool) (r : Int × Int × Bool)
    (h : Ev (fun k => impl_LongestAlarm.l0 k s t (upd (rd_T41 xs i).f0 (rd_T41 xs i).f0 a b f).1 (upd (rd_T41 xs i).f0 (rd_T41 xs i).f0 a b f).2.1 (upd (rd_T41 xs i).f0 (rd_T41 xs i).f0 a b f).2.2 (rd_T41 xs i).f0 xs xs.length ((i + 1 : Nat) : Int)) r) :
    Ev (fun k => impl_LongestAlarm.l0 k s t a b f c xs xs.length (i : Int)) r := by
  obtain ⟨z, hz, hzf⟩ := size_eq (rd_T41 xs i) s t (hv i hi).2.1 hs
  have w1 : wrap64 ((i : Int) + 1) = ((i + 1 : Nat) : Int) := by rw [w64 (by omega) (by omega)]; rfl
  refine Ev.step (fun k => impl_LongestAlarm.l0.eq_2 ..) (Ev.pos (by omega) (Ev.pos (by omega) (Ev.pos (by omega) (Ev.const hz (Ev.neg (fun q => hf (hzf.1 q)) (Ev.pos hc ?_))))))
  rw [w1, w64 (x := (rd_T41 xs i).f0 - (rd_T41 xs i).f0) (by omega) (by omega), w64 (x := b - a) (by omega) (by omega)]
  unfold upd at h
  cases f with
  | true =>
    rw [if_pos ⟨rfl, by omega⟩] at h
    exact Ev.pos rfl (Ev.neg (by omega) h)
  | false =>
    rw [if_neg (by simp)] at h
    exact Ev.neg (by simp) h
/-- One round of the program: a further bad reading. -/
theorem im_next (xs : List S41) (s t : Int) (hl : xs.length ≤ 20) (hv : ∀ i, i < xs.length → vR xs i) (hs : -300 ≤ s ∧ s ≤ 300) (i : Nat) (hi : i < xs.length) (hf : ¬ fine (rd_T41 xs i) s t) (a b c : Int) (hc : 0 ≤ c ∧ c ≤ 240) (hab : a ≤ b ∧ b - a ≤ 240) (f : Bool) (r : Int × Int × Bool)
    (h : Ev (fun k => impl_LongestAlarm.l0 k s t (upd c (rd_T41 xs i).f0 a b f).1 (upd c (rd_T41 xs i).f0 a b f).2.1 (upd c (rd_T41 xs i).f0 a b f).2.2 c xs xs.length ((i + 1 : Nat) : Int)) r) :
    Ev (fun k => impl_LongestAlarm.l0 k s t a b f c xs xs.length (i : Int)) r := by
  obtain ⟨z, hz, hzf⟩ := size_eq (rd_T41 xs i) s t (hv i hi).2.1 hs
  have hx := (hv i hi).1
  have w1 : wrap64 ((i : Int) + 1) = ((i + 1 : Nat) : Int) := by rw [w64 (by omega) (by omega)]; rfl
  refine Ev.step (fun k => impl_LongestAlarm.l0.eq_2 ..) (Ev.pos (by omega) (Ev.pos (by omega) (Ev.pos (by omega) (Ev.const hz (Ev.neg (fun q => hf (hzf.1 q)) (Ev.neg (by omega) ?_))))))
  rw [w1, w64 (x := (rd_T41 xs i).f0 - c) (by omega) (by omega), w64 (x := b - a) (by omega) (by omega)]
  unfold upd at h
  cases f with
  | true =>
    by_cases q : (rd_T41 xs i).f0 - c ≤ b - a
    · rw [if_pos ⟨rfl, q⟩] at h
      exact Ev.pos rfl (Ev.neg (by omega) h)
    · rw [if_neg (fun w => q w.2)] at h
      exact Ev.pos rfl (Ev.pos (by omega) h)
  | false =>
    rw [if_neg (by simp)] at h
    exact Ev.neg (by simp) h

theorem upd_bounds (f h a b : Int) (fd : Bool) (hf : 0 ≤ f ∧ f ≤ h ∧ h ≤ 240) (hab : a ≤ b ∧ b - a ≤ 240) : (upd f h a b fd).1 ≤ (upd f h a b fd).2.1 ∧ (upd f h a b fd).2.1 - (upd f h a b fd).1 ≤ 240 := by
  unfold upd
  split
  · exact hab
  · show f ≤ h ∧ h - f ≤ 240
    omega
theorem upd_upd (f h h' a b : Int) (fd : Bool) (hh : h ≤ h') : upd f h' (upd f h a b fd).1 (upd f h a b fd).2.1 (upd f h a b fd).2.2 = upd f h' a b fd := by
  unfold upd
  by_cases c : fd = true ∧ h - f ≤ b - a
  · rw [if_pos c]
  · rw [if_neg c]
    show (if true = true ∧ h' - f ≤ h - f then (f, h, true) else (f, h', true)) = _
    by_cases c2 : fd = true ∧ h' - f ≤ b - a
    · exact absurd ⟨c2.1, by omega⟩ c
    · rw [if_neg c2]
      split
      · have : h = h' := by omega
        rw [this]
      · rfl

/-- From reading i on, no run open; and from reading k of a run that began at i on. -/
theorem alarms (xs : List S41) (s t : Int) (hl : xs.length ≤ 20) (hv : ∀ i, i < xs.length → vR xs i) (hs : -300 ≤ s ∧ s ≤ 300) (ht : 0 ≤ t ∧ t ≤ 100) : ∀ d i : Nat, i + d = xs.length → ∀ (a b : Int) (f : Bool), (a ≤ b ∧ b - a ≤ 240) → 
    (∃ r, Ev (fun k => spec_LongestAlarm.l0 k xs s t a b f (i : Int)) r ∧ ∀ c : Int, c < 0 → Ev (fun k => impl_LongestAlarm.l0 k s t a b f c xs xs.length (i : Int)) r) ∧
    (∀ i0 : Nat, i0 < i → ∃ r, Ev (fun k => spec_LongestAlarm.l1 k xs s t a b f (i0 : Int) (i : Int)) r ∧
      Ev (fun k => impl_LongestAlarm.l0 k s t (upd (rd_T41 xs i0).f0 (rd_T41 xs ((i : Int) - 1)).f0 a b f).1 (upd (rd_T41 xs i0).f0 (rd_T41 xs ((i : Int) - 1)).f0 a b f).2.1 (upd (rd_T41 xs i0).f0 (rd_T41 xs ((i : Int) - 1)).f0 a b f).2.2 (rd_T41 xs i0).f0 xs xs.length (i : Int)) r) := by
  intro d
  induction d using Nat.strongRecOn with
  | _ d ih =>
  intro i hi a b f hab
  -- behind a run's end at place i (the reading there is good, or there is none)
  have close : ∀ i0 : Nat, i0 < i → (i < xs.length → fine (rd_T41 xs i) s t) → ∃ r, Ev (fun k => spec_LongestAlarm.j2 k xs s t a b f (i0 : Int) (i : Int)) r ∧
      Ev (fun k => impl_LongestAlarm.l0 k s t (upd (rd_T41 xs i0).f0 (rd_T41 xs ((i : Int) - 1)).f0 a b f).1 (upd (rd_T41 xs i0).f0 (rd_T41 xs ((i : Int) - 1)).f0 a b f).2.1 (upd (rd_T41 xs i0).f0 (rd_T41 xs ((i : Int) - 1)).f0 a b f).2.2 (rd_T41 xs i0).f0 xs xs.length (i : Int)) r := by
    intro i0 h0 hfi
    have q1 : ¬ ((i : Int) = (i0 : Int)) := by omega
    have q2 : 0 ≤ (i0 : Int) := by omega
    have q3 : (i0 : Int) < (xs.length : Int) := by omega
    have q4 : 0 ≤ (i : Int) - 1 := by omega
    have q5 : (i : Int) - 1 < (xs.length : Int) := by omega
    have e1 : ((i : Int) - 1) = ((i - 1 : Nat) : Int) := by omega
    have b0 := (hv i0 (by omega)).1
    have b1 := (hv (i - 1) (by omega)).1
    have b2 := rise_at xs hv i0 (i - 1) (by omega) (by omega)
    rw [← e1] at b1 b2
    have ub := upd_bounds (rd_T41 xs i0).f0 (rd_T41 xs ((i : Int) - 1)).f0 a b f ⟨b0.1, b2, b1.2⟩ hab
    have w1 : wrap64 ((i : Int) - 1) = (i : Int) - 1 := w64 (by omega) (by omega)
    have w2 : wrap64 ((i : Int) + 1) = ((i + 1 : Nat) : Int) := by rw [w64 (by omega) (by omega)]; rfl
    have w3 : wrap64 ((rd_T41 xs ((i : Int) - 1)).f0 - (rd_T41 xs i0).f0) = (rd_T41 xs ((i : Int) - 1)).f0 - (rd_T41 xs i0).f0 := w64 (by omega) (by omega)
    have w4 : wrap64 (b - a) = b - a := w64 (by omega) (by omega)
    -- what the reference does with the run
    have sp : ∀ r, Ev (fun k => spec_LongestAlarm.l0 k xs s t (upd (rd_T41 xs i0).f0 (rd_T41 xs ((i : Int) - 1)).f0 a b f).1 (upd (rd_T41 xs i0).f0 (rd_T41 xs ((i : Int) - 1)).f0 a b f).2.1 (upd (rd_T41 xs i0).f0 (rd_T41 xs ((i : Int) - 1)).f0 a b f).2.2 ((i + 1 : Nat) : Int)) r →
        Ev (fun k => spec_LongestAlarm.j2 k xs s t a b f (i0 : Int) (i : Int)) r := by
      intro r hr
      refine Ev.step (fun k => spec_LongestAlarm.j2.eq_2 ..) (Ev.neg q1 (Ev.pos q2 (Ev.pos q3 ?_)))
      rw [w1, w2, w3, w4]
      refine Ev.pos q4 (Ev.pos q5 ?_)
      unfold upd at hr
      cases f with
      | true =>
        by_cases q : (rd_T41 xs ((i : Int) - 1)).f0 - (rd_T41 xs i0).f0 ≤ b - a
        · rw [if_pos ⟨rfl, q⟩] at hr
          exact Ev.pos rfl (Ev.neg (Int.not_lt.2 q) hr)
        · rw [if_neg (fun w => q w.2)] at hr
          exact Ev.pos rfl (Ev.pos (Int.not_le.1 q) hr)
      | false =>
        rw [if_neg (by simp)] at hr
        exact Ev.neg (by simp) hr
    clear w1 w2 w3 w4
    rcases Nat.lt_or_ge i xs.length with hlt | hge
    · obtain ⟨⟨r, r1, r2⟩, _⟩ := ih (d - 1) (by omega) (i + 1) (by omega) _ _ (upd (rd_T41 xs i0).f0 (rd_T41 xs ((i : Int) - 1)).f0 a b f).2.2 ub
      exact ⟨r, sp r r1, im_fine xs s t hl hv hs i hlt (hfi hlt) _ _ _ _ r (r2 (-1) (by omega))⟩
    · refine ⟨_, sp _ (Ev.step (fun k => spec_LongestAlarm.l0.eq_2 ..) (Ev.neg (by omega) (Ev.now _))), Ev.step (fun k => impl_LongestAlarm.l0.eq_2 ..) (Ev.neg (by omega) (Ev.now _))⟩
  refine ⟨?_, ?_⟩
  · rcases Nat.lt_or_ge i xs.length with hlt | hge
    · have w2 : wrap64 ((i : Int) + 1) = ((i + 1 : Nat) : Int) := by rw [w64 (by omega) (by omega)]; rfl
      by_cases hf : fine (rd_T41 xs i) s t
      · obtain ⟨⟨r, r1, r2⟩, _⟩ := ih (d - 1) (by omega) (i + 1) (by omega) a b f hab
        refine ⟨r, Ev.step (fun k => spec_LongestAlarm.l0.eq_2 ..) (Ev.pos (by omega) (Ev.step (fun k => spec_LongestAlarm.l1.eq_2 ..) (Ev.pos (by omega) (Ev.pos (by omega) (Ev.const (fine_eq _ s t hs ht) (Ev.pos (by simpa using hf) (Ev.step (fun k => spec_LongestAlarm.j2.eq_2 ..) (Ev.pos rfl ?_)))))))), fun c hc => im_fine xs s t hl hv hs i hlt hf a b c f r (r2 (-1) (by omega))⟩
        rw [w2]
        exact r1
      · obtain ⟨_, h2⟩ := ih (d - 1) (by omega) (i + 1) (by omega) a b f hab
        obtain ⟨r, r1, r2⟩ := h2 i (by omega)
        rw [show (((i + 1 : Nat) : Int) - 1) = (i : Int) by omega] at r2
        refine ⟨r, Ev.step (fun k => spec_LongestAlarm.l0.eq_2 ..) (Ev.pos (by omega) (Ev.step (fun k => spec_LongestAlarm.l1.eq_2 ..) (Ev.pos (by omega) (Ev.pos (by omega) (Ev.const (fine_eq _ s t hs ht) (Ev.neg (by simpa using hf) ?_)))))), fun c hc => im_first xs s t hl hv hs i hlt hf a b c hc hab f r r2⟩
        rw [w2]
        exact r1
    · refine ⟨(a, b, f), Ev.step (fun k => spec_LongestAlarm.l0.eq_2 ..) (Ev.neg (by omega) (Ev.now _)), fun c _ => Ev.step (fun k => impl_LongestAlarm.l0.eq_2 ..) (Ev.neg (by omega) (Ev.now _))⟩
  · intro i0 h0
    rcases Nat.lt_or_ge i xs.length with hlt | hge
    · have w2 : wrap64 ((i : Int) + 1) = ((i + 1 : Nat) : Int) := by rw [w64 (by omega) (by omega)]; rfl
      by_cases hf : fine (rd_T41 xs i) s t
      · obtain ⟨r, r1, r2⟩ := close i0 h0 (fun _ => hf)
        exact ⟨r, Ev.step (fun k => spec_LongestAlarm.l1.eq_2 ..) (Ev.pos (by omega) (Ev.pos (by omega) (Ev.const (fine_eq _ s t hs ht) (Ev.pos (by simpa using hf) r1)))), r2⟩
      · obtain ⟨_, h2⟩ := ih (d - 1) (by omega) (i + 1) (by omega) a b f hab
        obtain ⟨r, r1, r2⟩ := h2 i0 (by omega)
        have e1 : ((i : Int) - 1) = ((i - 1 : Nat) : Int) := by omega
        have b0 := (hv i0 (by omega)).1
        have b1 := (hv (i - 1) (by omega)).1
        have b2 := rise_at xs hv i0 (i - 1) (by omega) (by omega)
        have b3 := rise_at xs hv (i - 1) i (by omega) (by omega)
        rw [← e1] at b1 b2 b3
        rw [show (((i + 1 : Nat) : Int) - 1) = (i : Int) by omega] at r2
        refine ⟨r, Ev.step (fun k => spec_LongestAlarm.l1.eq_2 ..) (Ev.pos (by omega) (Ev.pos (by omega) (Ev.const (fine_eq _ s t hs ht) (Ev.neg (by simpa using hf) ?_)))), ?_⟩
        · rw [w2]
          exact r1
        · refine im_next xs s t hl hv hs i hlt hf _ _ _ b0 (upd_bounds _ _ a b f ⟨b0.1, b2, b1.2⟩ hab) _ r ?_
          rw [upd_upd _ _ _ a b f b3]
          exact r2
    · obtain ⟨r, r1, r2⟩ := close i0 h0 (fun h => by omega)
      exact ⟨r, Ev.step (fun k => spec_LongestAlarm.l1.eq_2 ..) (Ev.neg (by omega) r1), r2⟩
theorem alarm (xs : List S41) (hl : xs.length ≤ 1048576) (s t : Int) : ∃ r, Ev (fun k => spec_LongestAlarm.f k xs s t) r ∧ Ev (fun k => impl_LongestAlarm.f k xs s t) r := by
  obtain ⟨b, h1, h2, h3⟩ := setting xs hl s t
  unfold spec_LongestAlarm.f impl_LongestAlarm.f
  cases b with
  | false => exact ⟨(0, 0, false), Ev.bind h1 (Ev.neg (by simp) (Ev.now _)), Ev.bind h2 (Ev.neg (by simp) (Ev.now _))⟩
  | true =>
    obtain ⟨⟨l20, hv⟩, hs, ht⟩ := h3.1 rfl
    obtain ⟨⟨r, r1, r2⟩, _⟩ := alarms xs s t l20 hv hs ht xs.length 0 (by omega) 0 0 false (by omega)
    exact ⟨r, Ev.bind h1 (Ev.pos rfl r1), Ev.bind h2 (Ev.pos rfl (r2 (-1) (by omega)))⟩

theorem bad_at (xs : List S41) (s t : Int) (hl : xs.length ≤ 20) (hv : ∀ i, i < xs.length → vR xs i) (hs : -300 ≤ s ∧ s ≤ 300) (ht : 0 ≤ t ∧ t ≤ 100) : ∀ d i : Nat, i + d = xs.length → ∀ o : List Int, o.length ≤ i →
    ∃ r : List Int, Ev (fun k => spec_BadReadings.l0 k xs s t o (i : Int)) (r, true) ∧ Ev (fun k => impl_BadReadings.l0 k s t o xs xs.length (i : Int)) (r, true) ∧ r.length ≤ 20 := by
  intro d
  induction d with
  | zero =>
    intro i hi o ho
    exact ⟨o, Ev.step (fun k => spec_BadReadings.l0.eq_2 ..) (Ev.neg (by omega) (Ev.now _)), Ev.step (fun k => impl_BadReadings.l0.eq_2 ..) (Ev.neg (by omega) (Ev.now _)), by omega⟩
  | succ d ih =>
    intro i hi o ho
    have w1 : wrap64 ((i : Int) + 1) = ((i + 1 : Nat) : Int) := by rw [w64 (by omega) (by omega)]; rfl
    obtain ⟨z, hz, hzf⟩ := size_eq (rd_T41 xs i) s t (hv i (by omega)).2.1 hs
    by_cases hf : fine (rd_T41 xs i) s t
    · obtain ⟨r, r1, r2, r3⟩ := ih (i + 1) (by omega) o (by omega)
      rw [← w1] at r1 r2
      exact ⟨r, Ev.step (fun k => spec_BadReadings.l0.eq_2 ..) (Ev.pos (by omega) (Ev.pos (by omega) (Ev.const (fine_eq _ s t hs ht) (Ev.pos (by simpa using hf) r1)))),
        Ev.step (fun k => impl_BadReadings.l0.eq_2 ..) (Ev.pos (by omega) (Ev.pos (by omega) (Ev.pos (by omega) (Ev.const hz (Ev.neg (fun q => by have := hzf.2 hf; omega) r2))))), r3⟩
    · obtain ⟨r, r1, r2, r3⟩ := ih (i + 1) (by omega) (o ++ [(rd_T41 xs i).f0]) (by simp; omega)
      rw [← w1] at r1 r2
      exact ⟨r, Ev.step (fun k => spec_BadReadings.l0.eq_2 ..) (Ev.pos (by omega) (Ev.pos (by omega) (Ev.const (fine_eq _ s t hs ht) (Ev.neg (by simpa using hf) (Ev.pos (by omega) r1))))),
        Ev.step (fun k => impl_BadReadings.l0.eq_2 ..) (Ev.pos (by omega) (Ev.pos (by omega) (Ev.pos (by omega) (Ev.const hz (Ev.pos (Int.not_le.1 (fun q => hf (hzf.1 q))) (Ev.pos (by omega) r2)))))), r3⟩

theorem bad (xs : List S41) (hl : xs.length ≤ 1048576) (s t : Int) : ∃ r : List Int × Bool, Ev (fun k => spec_BadReadings.f k xs s t) r ∧ Ev (fun k => impl_BadReadings.f k xs s t) r ∧ r.1.length ≤ 20 := by
  obtain ⟨b, h1, h2, h3⟩ := setting xs hl s t
  unfold spec_BadReadings.f impl_BadReadings.f
  cases b with
  | false => exact ⟨([], false), Ev.some (Ev.bind h1 (Ev.neg (by simp) (Ev.now _))), Ev.bind h2 (Ev.neg (by simp) (Ev.now _)), by simp⟩
  | true =>
    obtain ⟨⟨l20, hv⟩, hs, ht⟩ := h3.1 rfl
    obtain ⟨r, r1, r2, r3⟩ := bad_at xs s t l20 hv hs ht xs.length 0 (by omega) [] (by simp)
    exact ⟨(r, true), Ev.some (Ev.bind h1 (Ev.pos rfl r1)), Ev.bind h2 (Ev.pos rfl r2), r3⟩

/-- From some number of rounds on there is a value, and it is as told. -/
def Has {α : Type} (g : Nat → Option α) (Q : α → Prop) : Prop := ∃ r, Ev g r ∧ Q r
theorem Has.bind {α β : Type} {g : Nat → Option α} {f : Nat → α → Option β} {P : α → Prop} {Q : β → Prop} (h : Has g P) (k : ∀ a, P a → Has (fun n => f n a) Q) : Has (fun n => (g n).bind (f n)) Q := by
  obtain ⟨a, h1, h2⟩ := h
  obtain ⟨r, r1, r2⟩ := k a h2
  exact ⟨r, Ev.bind h1 r1, r2⟩
theorem Has.pos {α : Type} {c : Prop} [Decidable c] {A B : Nat → Option α} {Q : α → Prop} (h : c) (k : Has A Q) : Has (fun n => if c then A n else B n) Q := by
  obtain ⟨r, r1, r2⟩ := k
  exact ⟨r, Ev.pos h r1, r2⟩
theorem Has.neg {α : Type} {c : Prop} [Decidable c] {A B : Nat → Option α} {Q : α → Prop} (h : ¬ c) (k : Has B Q) : Has (fun n => if c then A n else B n) Q := by
  obtain ⟨r, r1, r2⟩ := k
  exact ⟨r, Ev.neg h r1, r2⟩
theorem Has.ite {α : Type} {c : Prop} [Decidable c] {A B : Nat → Option α} {Q : α → Prop} (h1 : c → Has A Q) (h2 : ¬ c → Has B Q) : Has (fun n => if c then A n else B n) Q := by
  by_cases h : c
  · exact Has.pos h (h1 h)
  · exact Has.neg h (h2 h)
theorem Has.now {α : Type} {a : α} {Q : α → Prop} (h : Q a) : Has (fun _ => some a) Q := ⟨a, Ev.now _, h⟩
theorem Has.step {α : Type} {g s : Nat → Option α} {Q : α → Prop} (e : ∀ k, g (k + 1) = s k) (h : Has s Q) : Has g Q := by
  obtain ⟨r, r1, r2⟩ := h
  exact ⟨r, Ev.step e r1, r2⟩
theorem Has.mono {α : Type} {g : Nat → Option α} {P Q : α → Prop} (h : Has g P) (k : ∀ a, P a → Q a) : Has g Q := by
  obtain ⟨r, r1, r2⟩ := h
  exact ⟨r, r1, k r r2⟩
theorem Has.val {α β : Type} {a : α} {f : Nat → α → Option β} {Q : β → Prop} (k : Has (fun n => f n a) Q) : Has (fun n => (some a).bind (f n)) Q := k
theorem Has.const {α β : Type} {o : Option α} {f : Nat → α → Option β} {a : α} {Q : β → Prop} (h : o = some a) (k : Has (fun n => f n a) Q) : Has (fun n => o.bind (f n)) Q := by
  obtain ⟨r, r1, r2⟩ := k
  exact ⟨r, Ev.const h r1, r2⟩
theorem Has.of {α : Type} {g : Nat → Option α} {r : α} {Q : α → Prop} (h : Ev g r) (k : Q r) : Has g Q := ⟨r, h, k⟩
theorem Has.ev {α β : Type} {g : Nat → Option α} {f : Nat → α → Option β} {a : α} {Q : β → Prop} (h : Ev g a) (k : Has (fun n => f n a) Q) : Has (fun n => (g n).bind (f n)) Q := by
  obtain ⟨r, r1, r2⟩ := k
  exact ⟨r, Ev.bind h r1, r2⟩

/-- The drawing's bytes. -/
def Bytes (c : List Int) : Prop := ∀ x ∈ c, 0 ≤ x ∧ x ≤ 255
theorem bytes_wf {c : List Int} (h : ∀ x ∈ c, (Lit.int .u8 x).wf = true) : Bytes c := fun x hx => by
  have := h x hx
  simp [Lit.wf, IntKind.min, IntKind.max, IntKind.signed, IntKind.bits] at this
  omega
theorem byte_of (y : Int) : 0 ≤ y % 2 ^ 8 ∧ y % 2 ^ 8 ≤ 255 := by omega
theorem byte_w (z : Int) (h : 0 ≤ z ∧ z ≤ 255) : 0 ≤ wrap64 z ∧ wrap64 z ≤ 255 := by
  rw [w64 (by omega) (by omega)]
  exact h
theorem high_of (s : Int) : 0 ≤ IntKind.u64.wrap s / 1099511627776 ∧ IntKind.u64.wrap s / 1099511627776 < 2 ^ 64 := by
  rw [IntKind.wrap_u64]
  omega
theorem low_byte (s : Int) : 0 ≤ wrap64 (Go.bits .and .u64 (IntKind.u64.wrap s / 1099511627776) 255) ∧ wrap64 (Go.bits .and .u64 (IntKind.u64.wrap s / 1099511627776) 255) ≤ 255 := by
  have h0 := high_of s
  generalize IntKind.u64.wrap s / 1099511627776 = y at h0 ⊢
  have e : Go.bits .and .u64 y 255 = y % 2 ^ 8 := bits_mask .u64 64 (by decide) Go.wraps_u64 8 (by decide) y h0.1 h0.2
  rw [e]
  exact byte_w _ (byte_of _)
theorem next_some (c : List Int) (hc : Bytes c) (a s : Int) (h0 : 0 ≤ a) (h1 : a ≤ 4611686018427387904) : ∃ x t, spec_l1Cur_next.f c a s = some (x, a + 1, t) ∧ 0 ≤ x ∧ x ≤ 255 := by
  unfold spec_l1Cur_next.f
  rw [show wrap64 (a + 1) = a + 1 from w64 (by omega) (by omega)]
  by_cases q : a < (c.length : Int)
  · have e : 0 ≤ rd c a ∧ rd c a ≤ 255 := by
      unfold rd
      rw [getD_of (List.getElem?_eq_getElem (by omega))]
      exact hc _ (List.getElem_mem _)
    rw [if_pos q, if_pos h0, if_pos (by omega), w64 (by omega) (by omega)]
    exact ⟨_, _, rfl, e⟩
  · rw [if_neg q, if_neg (by omega)]
    exact ⟨_, _, rfl, low_byte _⟩
/-- A drawn number: the number itself and how far the drawing is. -/
def Dr (n a : Int) (r : Int × Int × Int) : Prop := 0 ≤ r.1 ∧ (1 < n → r.1 < n) ∧ (n ≤ 1 → r.1 = 0) ∧ a ≤ r.2.1 ∧ r.2.1 ≤ a + 2
theorem pick_some (c : List Int) (hc : Bytes c) (a s n : Int) (h0 : 0 ≤ a) (h1 : a ≤ 2305843009213693952) : ∃ r, spec_l1Cur_pick.f c a s n = some r ∧ Dr n a r := by
  unfold spec_l1Cur_pick.f
  by_cases q : n ≤ 1
  · rw [if_pos q]
    exact ⟨_, rfl, by simp [Dr]; omega⟩
  · rw [if_neg q]
    obtain ⟨x, t, e, x0, x1⟩ := next_some c hc a s h0 (by omega)
    rw [e]
    simp only [Option.bind_some]
    by_cases q2 : n > 200
    · rw [if_pos q2]
      obtain ⟨y, u, e2, y0, y1⟩ := next_some c hc (a + 1) t (by omega) (by omega)
      rw [e2]
      simp only [Option.bind_some]
      rw [if_neg (by omega), show wrap64 (x * 256) = x * 256 from w64 (by omega) (by omega), show wrap64 (x * 256 + y) = x * 256 + y from w64 (by omega) (by omega), Int.tmod_eq_emod_of_nonneg (by omega)]
      have m0 := Int.emod_nonneg (x * 256 + y) (show n ≠ 0 by omega)
      have m1 := Int.emod_lt_of_pos (x * 256 + y) (show 0 < n by omega)
      exact ⟨_, rfl, by simp only [Dr]; omega⟩
    · rw [if_neg q2, if_neg (by omega), Int.tmod_eq_emod_of_nonneg (by omega)]
      have m0 := Int.emod_nonneg x (show n ≠ 0 by omega)
      have m1 := Int.emod_lt_of_pos x (show 0 < n by omega)
      exact ⟨_, rfl, by simp only [Dr]; omega⟩
theorem pick {c : List Int} (hc : Bytes c) {a : Int} (s n : Int) (h0 : 0 ≤ a) (h1 : a ≤ 2305843009213693952) : Has (fun _ => spec_l1Cur_pick.f c a s n) (Dr n a) := by
  obtain ⟨r, e, d⟩ := pick_some c hc a s n h0 h1
  exact ⟨r, Ev.nor e, d⟩
/-- How far a drawing is behind at most m numbers. -/
def Far {α : Type} (m a : Int) (r : α × Int × Int) : Prop := a ≤ r.2.1 ∧ r.2.1 ≤ a + m
theorem among {c : List Int} (hc : Bytes c) {a : Int} (s : Int) (l : List Int) (hl : l ≠ []) (h0 : 0 ≤ a) (h1 : a ≤ 2305843009213693952) : Has (fun _ => spec_l1Cur_among.f c a s l) (fun r => r.1 ∈ l ∧ a ≤ r.2.1 ∧ r.2.1 ≤ a + 2) := by
  have hn : 0 < l.length := List.length_pos_iff.2 hl
  unfold spec_l1Cur_among.f
  refine Has.bind (pick hc s _ h0 h1) fun r ⟨r0, r1, r2, r3, r4⟩ => ?_
  have r5 : r.1 < (l.length : Int) := by
    rcases Int.lt_or_le 1 (l.length : Int) with h | h
    · exact r1 h
    · have := r2 h
      omega
  refine Has.pos r0 (Has.pos r5 (Has.now ⟨?_, r3, r4⟩))
  unfold rd
  rw [getD_of (List.getElem?_eq_getElem (by omega))]
  exact List.getElem_mem _
/-- A number of the first ones of a list. -/
theorem amongCut {β : Type} {c : List Int} (hc : Bytes c) {a : Int} (s : Int) (l : List Int) (b : Int) (hb : 1 ≤ b) (hl : b + 2 ≤ (l.length : Int)) (hm : (l.length : Int) ≤ 1000) (h0 : 0 ≤ a) (h1 : a ≤ 1152921504606846976) {K : Nat → Int × Int × Int → Option β} {Q : β → Prop}
    (k : ∀ r : Int × Int × Int, r.1 ∈ l → a ≤ r.2.1 → r.2.1 ≤ a + 4 → Has (fun n => K n r) Q) :
    Has (fun n => (spec_l1Cur_pick.f c a s 24).bind fun bt => (if 0 ≤ (wrap64 (b + (wrap64 (Int.tdiv bt.1 11)))) then (if (wrap64 (b + (wrap64 (Int.tdiv bt.1 11)))) ≤ (l.length : Int) then ((spec_l1Cur_among.f c bt.2.1 bt.2.2 (l.take ((wrap64 (b + (wrap64 (Int.tdiv bt.1 11)))) : Int).toNat)).bind (K n)) else (none)) else (none))) Q := by
  refine Has.bind (pick hc s 24 h0 (by omega)) fun r ⟨r0, r1, _, r3, r4⟩ => ?_
  have r5 := r1 (by omega)
  have e : wrap64 (b + wrap64 (Int.tdiv r.1 11)) = b + r.1 / 11 := by
    rw [Int.tdiv_eq_ediv_of_nonneg r0, w64 (x := r.1 / 11) (by omega) (by omega), w64 (by omega) (by omega)]
  rw [e]
  refine Has.pos (by omega) (Has.pos (by omega) ?_)
  refine Has.bind (among hc (a := r.2.1) r.2.2 _ ?_ (by omega) (by omega)) fun q ⟨q0, q1, q2⟩ => k q (List.mem_of_mem_take q0) (by omega) (by omega)
  intro h
  have h2 := congrArg List.length h
  rw [List.length_take, List.length_nil] at h2
  omega

theorem one {c : List Int} (hc : Bytes c) {a : Int} (s n : Int) (h0 : 0 ≤ a) (h1 : a ≤ 2305843009213693952) : Has (fun _ => spec_l1Cur_one.f c a s n) (fun r => a ≤ r.2.1 ∧ r.2.1 ≤ a + 2) := by
  unfold spec_l1Cur_one.f
  exact Has.bind (pick hc s n h0 h1) fun r ⟨_, _, _, r3, r4⟩ => Has.now ⟨r3, r4⟩

theorem draw_more {c : List Int} (hc : Bytes c) (x6 : Int) (h6 : 0 ≤ x6) (y : Int) (z : Int) (p : Bool) : ∀ (d : Nat) (xs : List S41) (a s : Int), 22 ≤ xs.length + d → x6 < xs.length → xs.length ≤ 30 → 0 ≤ a → a ≤ 1152921504606846976 - 2 * d →
    Has (fun k => spec_l1Cur_readings.l1 k xs x6 c a s y z p) (fun r => r.1.length ≤ 30 ∧ a ≤ r.2.1 ∧ r.2.1 ≤ a + 2 * d + 2) := by
  intro d
  induction d with
  | zero =>
    intro xs a s hl hx h30 h0 h1
    refine Has.step (fun k => spec_l1Cur_readings.l1.eq_2 ..) (Has.bind (pick hc s 2 h0 (by omega)) fun r ⟨r0, r1, _, r3, r4⟩ => ?_)
    have r5 := r1 (by omega)
    rw [w64 (by omega) (by omega)]
    exact Has.neg (by omega) (Has.pos h6 (Has.pos hx (Has.now ⟨by simpa using h30, by simp only; omega, by simp only; omega⟩)))
  | succ d ih =>
    intro xs a s hl hx h30 h0 h1
    refine Has.step (fun k => spec_l1Cur_readings.l1.eq_2 ..) (Has.bind (pick hc s 2 h0 (by omega)) fun r ⟨r0, r1, _, r3, r4⟩ => ?_)
    have r5 := r1 (by omega)
    rw [w64 (x := 20 + r.1) (by omega) (by omega)]
    by_cases q : (xs.length : Int) < 20 + r.1
    · refine Has.pos q (Has.pos (by omega) (Has.mono (ih _ r.2.1 r.2.2 (by simp; omega) (by simp; omega) (by simp; omega) (by omega) (by omega)) fun b hb => ⟨hb.1, by omega, by omega⟩))
    · exact Has.neg q (Has.pos h6 (Has.pos hx (Has.now ⟨by simpa using h30, by simp only; omega, by simp only; omega⟩)))

theorem draw_log_at {c : List Int} (hc : Bytes c) : ∀ (n : Nat) (xs : List S41) (hour a s : Int), xs.length + n ≤ 8 → 0 ≤ a → a ≤ 1000000000000000000 - 6 * n →
    Has (fun k => spec_l1Cur_readings.l0 k xs hour n c a s) (fun r => r.1.length ≤ 30 ∧ a ≤ r.2.1 ∧ r.2.1 ≤ a + 6 * n + 60) := by
  intro n
  induction n with
  | zero =>
    intro xs hour a s hl h0 h1
    refine Has.step (fun k => spec_l1Cur_readings.l0.eq_2 ..) (Has.neg (by omega) ?_)
    by_cases q : (xs.length : Int) = 0
    · exact Has.pos q (Has.now ⟨by simp only; omega, by simp only; omega, by simp only; omega⟩)
    · refine Has.neg q (Has.bind (pick hc s _ h0 (by omega)) fun i ⟨i0, i1, i2, i3, i4⟩ => ?_)
      have i5 : i.1 < (xs.length : Int) := by
        rcases Int.lt_or_le 1 (xs.length : Int) with h | h
        · exact i1 h
        · have := i2 h
          omega
      refine Has.pos i0 (Has.pos i5 (Has.bind (pick hc i.2.2 40 (by omega) (by omega)) fun r ⟨r0, r1, _, r3, r4⟩ => ?_))
      refine Has.ite (fun _ => ?_) (fun _ => Has.ite (fun _ => ?_) (fun _ => Has.ite (fun _ => ?_) (fun _ => ?_)))
      · exact Has.bind (among hc r.2.2 _ (by simp) (by omega) (by omega)) fun q q1 => Has.now ⟨by simp only [List.length_set]; omega, by simp only; omega, by simp only; omega⟩
      · exact Has.bind (among hc r.2.2 _ (by simp) (by omega) (by omega)) fun q q1 => Has.now ⟨by simp only [List.length_set]; omega, by simp only; omega, by simp only; omega⟩
      · exact Has.mono (draw_more hc i.1 i0 _ _ _ 22 xs r.2.1 r.2.2 (by omega) i5 (by omega) (by omega) (by omega)) fun b hb => ⟨hb.1, by omega, by omega⟩
      · exact Has.now ⟨by simp only [List.length_set]; omega, by simp only; omega, by simp only; omega⟩
  | succ n ih =>
    intro xs hour a s hl h0 h1
    have w1 : wrap64 (((n + 1 : Nat) : Int) - 1) = (n : Int) := by rw [w64 (by omega) (by omega)]; omega
    refine Has.step (fun k => spec_l1Cur_readings.l0.eq_2 ..) (Has.pos (by omega) ?_)
    rw [w1]
    refine Has.bind (among hc s _ (by simp) h0 (by omega)) fun q ⟨_, q1, q2⟩ => ?_
    refine Has.bind (one hc q.2.2 3 (by omega) (by omega)) fun u ⟨u1, u2⟩ => ?_
    refine Has.pos (by omega) (Has.bind (pick hc u.2.2 6 (by omega) (by omega)) fun r ⟨r0, r1, _, r3, r4⟩ => ?_)
    exact Has.mono (ih _ _ r.2.1 r.2.2 (by simp; omega) (by omega) (by omega)) fun b hb => ⟨hb.1, by omega, by omega⟩

theorem draw_log {c : List Int} (hc : Bytes c) {a : Int} (s : Int) (h0 : 0 ≤ a) (h1 : a ≤ 100000000000000000) : Has (fun k => spec_l1Cur_readings.f k c a s) (fun r => r.1.length ≤ 30 ∧ a ≤ r.2.1 ∧ r.2.1 ≤ a + 200) := by
  unfold spec_l1Cur_readings.f
  refine Has.bind (pick hc s 6 h0 (by omega)) fun q ⟨q0, q1, _, q3, q4⟩ => ?_
  refine Has.bind (pick hc q.2.2 8 (by omega) (by omega)) fun r ⟨r0, r1, _, r3, r4⟩ => ?_
  have r5 := r1 (by omega)
  have e : r.1 = ((r.1.toNat : Nat) : Int) := by omega
  rw [e]
  exact Has.mono (draw_log_at hc r.1.toNat [] _ r.2.1 r.2.2 (by simp; omega) (by omega) (by omega)) fun b hb => ⟨hb.1, by omega, by omega⟩


theorem addReading (xs : List S41) (hl : xs.length ≤ 1048576) (h t : Int) (p : Bool) : ∃ r : List S41 × Bool, Ev (fun k => spec_AddReading.f k xs h t p) r ∧ Ev (fun k => impl_AddReading.f k xs h t p) r ∧ r.1.length ≤ 21 ∧ (r.2 = true → r.1.length = xs.length + 1 ∧ Log r.1) := by
  obtain ⟨b, h1, h2, h3⟩ := readings xs hl
  unfold spec_AddReading.f impl_AddReading.f
  by_cases c : b = true
  · have l20 := (h3.1 c).1
    have main : ∀ d i : Nat, i + d = xs.length → ∃ r : List S41 × Bool, Ev (fun k => spec_AddReading.l0 k xs i h t p) r ∧ Ev (fun k => impl_AddReading.l0 k xs i h t p) r ∧ r.1.length ≤ 21 ∧ (r.2 = true → r.1.length = xs.length + 1 ∧ Log r.1) := by
      have stop : ∀ i : Nat, i ≤ xs.length → ∃ (r : List S41 × Bool) (q : Bool), Ev (fun k => spec_l21Good.f k ([] ++ xs.take i ++ [(⟨h, t, p⟩ : S41)] ++ xs.drop i)) q ∧ r = (if q = true then ([] ++ xs.take i ++ [(⟨h, t, p⟩ : S41)] ++ xs.drop i, true) else ([], false)) ∧ Ev (fun k => impl_AddReading.j1 k xs i h t p) r ∧ r.1.length ≤ 21 ∧ (r.2 = true → r.1.length = xs.length + 1 ∧ Log r.1) := by
        intro i hi
        have len : ([] ++ xs.take i ++ [(⟨h, t, p⟩ : S41)] ++ xs.drop i).length = xs.length + 1 := by
          rw [List.length_append, List.length_append, List.length_append, List.length_take, List.length_drop]
          simp
          omega
        obtain ⟨q, g1, g2, g3⟩ := readings ([] ++ xs.take i ++ [(⟨h, t, p⟩ : S41)] ++ xs.drop i) (by omega)
        refine ⟨_, q, g1, rfl, ?_, ?_, ?_⟩
        · refine Ev.step (fun k => impl_AddReading.j1.eq_2 ..) (Ev.const (a := xs) ?_ (Ev.const (a := [] ++ xs.take i ++ [(⟨h, t, p⟩ : S41)] ++ xs.drop i) ?_ (Ev.bind g2 ?_)))
          · unfold slices_Clone_impl_Reading.f
            show (if 0 + xs.length < 5864062014805 then some ([] ++ xs) else none) = _
            rw [if_pos (by omega), List.nil_append]
          · unfold slices_Insert_impl_Reading.f
            rw [if_pos (by omega), if_pos (by omega), if_pos (show [(⟨h, t, p⟩ : S41)].length = 1 from rfl), if_pos (by omega), Int.toNat_natCast, List.nil_append]
          · cases q with
            | true => exact Ev.pos rfl (Ev.now _)
            | false => exact Ev.neg (by simp) (Ev.now _)
        · cases q with
          | true => show ([] ++ xs.take i ++ [(⟨h, t, p⟩ : S41)] ++ xs.drop i).length ≤ 21; omega
          | false => simp
        · cases q with
          | true => exact fun _ => ⟨len, g3.1 rfl⟩
          | false => exact fun q => by cases q
      intro d
      induction d with
      | zero =>
        intro i hi
        obtain ⟨r, q, q1, q2, q3, q4⟩ := stop i (by omega)
        refine ⟨r, Ev.step (fun k => spec_AddReading.l0.eq_2 ..) (Ev.neg (by omega) (Ev.some (Ev.pos (by omega) (Ev.pos (by omega) (Ev.some (Ev.pos (by simp; omega) (Ev.some (Ev.some (Ev.pos (by simp; omega) (Ev.some (Ev.some (Ev.pos (by simp; omega) (Ev.some ?_))))))))))))), Ev.step (fun k => impl_AddReading.l0.eq_2 ..) (Ev.neg (by omega) q3), q4⟩
        rw [Int.toNat_natCast]
        refine Ev.bind q1 ?_
        rw [q2]
        cases q with
        | true => exact Ev.pos rfl (Ev.now _)
        | false => exact Ev.neg (by simp) (Ev.now _)
      | succ d ih =>
        intro i hi
        by_cases g : (rd_T41 xs i).f0 < h
        · obtain ⟨r, s1, s2, s3⟩ := ih (i + 1) (by omega)
          have w1 : wrap64 ((i : Int) + 1) = ((i + 1 : Nat) : Int) := by rw [w64 (by omega) (by omega)]; rfl
          rw [← w1] at s1 s2
          exact ⟨r, Ev.step (fun k => spec_AddReading.l0.eq_2 ..) (Ev.pos (by omega) (Ev.pos (by omega) (Ev.pos g s1))), Ev.step (fun k => impl_AddReading.l0.eq_2 ..) (Ev.pos (by omega) (Ev.pos (by omega) (Ev.pos g s2))), s3⟩
        · obtain ⟨r, q, q1, q2, q3, q4⟩ := stop i (by omega)
          refine ⟨r, Ev.step (fun k => spec_AddReading.l0.eq_2 ..) (Ev.pos (by omega) (Ev.pos (by omega) (Ev.neg g (Ev.some (Ev.pos (by omega) (Ev.some (Ev.pos (by simp; omega) (Ev.some (Ev.some (Ev.pos (by simp; omega) (Ev.some (Ev.some (Ev.pos (by simp; omega) (Ev.some ?_)))))))))))))), Ev.step (fun k => impl_AddReading.l0.eq_2 ..) (Ev.pos (by omega) (Ev.pos (by omega) (Ev.neg g q3))), q4⟩
          rw [Int.toNat_natCast]
          refine Ev.bind q1 ?_
          rw [q2]
          cases q with
          | true => exact Ev.pos rfl (Ev.now _)
          | false => exact Ev.neg (by simp) (Ev.now _)
    obtain ⟨r, r1, r2, r3⟩ := main xs.length 0 (by omega)
    exact ⟨r, Ev.bind h1 (Ev.pos c r1), Ev.bind h2 (Ev.pos c r2), r3⟩
  · exact ⟨([], false), Ev.bind h1 (Ev.neg c (Ev.now _)), Ev.bind h2 (Ev.neg c (Ev.now _)), by simp, fun q => by cases q⟩

def tdig (l : List UInt8) : Int := l.foldl (fun n b => if b.toNat = 46 then n else n * 10 + ((b.toNat : Int) - 48)) 0
def tval (s : ByteArray) : Int := if (s.data.toList.headD 0).toNat = 45 then -(tdig s.data.toList.tail) else tdig s.data.toList
theorem texts_all : ∀ x : Fin 801, (match impl_tenthText.f ((x.val : Int) - 400) with | some s => decide (tval s = (x.val : Int) - 400 ∧ 2 ≤ s.size ∧ s.size ≤ 100) | none => false) = true := by decide +kernel
/-- Both texts of a temperature, and the temperature out of its text. -/
theorem texts (t : Int) (h0 : -400 ≤ t) (h1 : t ≤ 400) : ∃ s : ByteArray, Ev (fun k => spec_l21Text.f k t) s ∧ impl_tenthText.f t = some s ∧ 2 ≤ s.size ∧ s.size ≤ 100 ∧ tval s = t := by
  obtain ⟨s, s1, s2⟩ := tenthBoth t h0 h1
  have h := texts_all ⟨(t + 400).toNat, by omega⟩
  simp only [show (((t + 400).toNat : Nat) : Int) - 400 = t from by omega] at h
  rw [s2] at h
  obtain ⟨a, b, c⟩ := of_decide_eq_true h
  exact ⟨s, s1, s2, b, c, a⟩
theorem tenthText (t : Int) : ∃ r : ByteArray × Bool, Ev (fun k => spec_TenthText.f k t) r ∧ impl_TenthText.f t = some r ∧ (r.2 = true → (-400 ≤ t ∧ t ≤ 400) ∧ impl_tenthText.f t = some r.1) := by
  unfold spec_TenthText.f impl_TenthText.f
  by_cases c : -400 ≤ t ∧ t ≤ 400
  · obtain ⟨s, s1, s2⟩ := tenthBoth t c.1 c.2
    refine ⟨(s, true), Ev.const (l1In_eq _ _ _) (Ev.pos (decide_eq_true c) (Ev.bind s1 (Ev.now _))), ?_, fun _ => ⟨c, s2⟩⟩
    rw [within_eq, decide_eq_true c, Option.bind_some, if_pos rfl, s2]
    rfl
  · refine ⟨((⟨#[]⟩ : ByteArray), false), Ev.const (l1In_eq _ _ _) (Ev.neg (fun h => c (of_decide_eq_true h)) (Ev.now _)), ?_, fun q => by cases q⟩
    rw [within_eq, decide_eq_false c]
    rfl
theorem parseLoop (x : ByteArray) : ∀ d : Nat, ∀ t : Int, -400 ≤ t → t + d = 401 → ∃ r : Int × Bool, Ev (fun k => spec_ParseTenth.l0 k x t) r ∧ Ev (fun k => impl_ParseTenth.l0 k x t) r := by
  intro d
  induction d with
  | zero =>
    intro t h0 h1
    exact ⟨(0, false), Ev.step (fun k => spec_ParseTenth.l0.eq_2 ..) (Ev.neg (by omega) (Ev.now _)), Ev.step (fun k => impl_ParseTenth.l0.eq_2 ..) (Ev.neg (by omega) (Ev.now _))⟩
  | succ d ih =>
    intro t h0 h1
    obtain ⟨s, s1, s2⟩ := tenthBoth t h0 (by omega)
    have w1 : wrap64 (t + 1) = t + 1 := w64 (by omega) (by omega)
    by_cases c : s.toList = x.toList
    · exact ⟨(t, true), Ev.step (fun k => spec_ParseTenth.l0.eq_2 ..) (Ev.pos (by omega) (Ev.bind s1 (Ev.pos c (Ev.now _)))), Ev.step (fun k => impl_ParseTenth.l0.eq_2 ..) (Ev.pos (by omega) (Ev.const s2 (Ev.pos c (Ev.now _))))⟩
    · obtain ⟨r, r1, r2⟩ := ih (t + 1) (by omega) (by omega)
      rw [← w1] at r1 r2
      exact ⟨r, Ev.step (fun k => spec_ParseTenth.l0.eq_2 ..) (Ev.pos (by omega) (Ev.bind s1 (Ev.neg c r1))), Ev.step (fun k => impl_ParseTenth.l0.eq_2 ..) (Ev.pos (by omega) (Ev.const s2 (Ev.neg c r2)))⟩
theorem parse (x : ByteArray) : ∃ r : Int × Bool, Ev (fun k => spec_ParseTenth.f k x) r ∧ Ev (fun k => impl_ParseTenth.f k x) r := by
  unfold spec_ParseTenth.f impl_ParseTenth.f
  exact parseLoop x 801 (-400) (by omega) (by omega)
/-- A temperature's text is read as that temperature. -/
theorem parseBack (t0 : Int) (h0 : -400 ≤ t0) (h1 : t0 ≤ 400) (s : ByteArray) (hs : impl_tenthText.f t0 = some s) : Ev (fun k => impl_ParseTenth.f k s) (t0, true) := by
  unfold impl_ParseTenth.f
  obtain ⟨v, _, v2, _, _, v5⟩ := texts t0 h0 h1
  obtain rfl : v = s := Option.some.inj (v2.symm.trans hs)
  have main : ∀ d : Nat, ∀ t : Int, -400 ≤ t → t + d = t0 → Ev (fun k => impl_ParseTenth.l0 k v t) (t0, true) := by
    intro d
    induction d with
    | zero =>
      intro t h2 h3
      obtain rfl : t = t0 := by omega
      exact Ev.step (fun k => impl_ParseTenth.l0.eq_2 ..) (Ev.pos (by omega) (Ev.const hs (Ev.pos rfl (Ev.now _))))
    | succ d ih =>
      intro t h2 h3
      obtain ⟨u, _, u2, _, _, u5⟩ := texts t h2 (by omega)
      have k := ih (t + 1) (by omega) (by omega)
      rw [← show wrap64 (t + 1) = t + 1 from w64 (by omega) (by omega)] at k
      refine Ev.step (fun k => impl_ParseTenth.l0.eq_2 ..) (Ev.pos (by omega) (Ev.const u2 (Ev.neg (fun q => ?_) k)))
      have e := str_eq.1 q
      rw [e, v5] at u5
      omega
  exact main (t0 + 400).toNat (-400) (by omega) (by omega)
theorem spoilt2 {c : List Int} (hc : Bytes c) {a : Int} (s : Int) (t : ByteArray) (ht : 2 ≤ t.size) (ht' : t.size ≤ 100) (w : ByteArray) (hw : w.size = 4) (h0 : 0 ≤ a) (h1 : a ≤ 1000000000000000000) : Has (fun _ => spec_l1Cur_spoilt.f c a s t w) (fun _ => True) := by
  unfold spec_l1Cur_spoilt.f
  refine Has.ite (fun _ => Has.pos (by omega) (Has.pos (by omega) (Has.now trivial))) (fun _ => ?_)
  refine Has.bind (pick hc s _ h0 (by omega)) fun i ⟨i0, i1, _, i3, i4⟩ => ?_
  have i5 := i1 (by omega)
  refine Has.bind (pick hc i.2.2 _ (by omega) (by omega)) fun j ⟨j0, j1, _, j3, j4⟩ => ?_
  have j5 := j1 (by omega)
  rw [show wrap64 (i.1 + 1) = i.1 + 1 from w64 (by omega) (by omega)]
  refine Has.pos j0 (Has.pos (by omega) (Has.pos (by omega) (Has.pos (by rw [ByteArray.size_extract]; omega) (Has.bind (pick hc j.2.2 3 (by omega) (by omega)) fun q ⟨_, _, _, q3, q4⟩ => ?_))))
  refine Has.ite (fun _ => Has.pos i0 (Has.pos (by omega) ?_)) (fun _ => Has.ite (fun _ => Has.pos i0 (Has.pos (by omega) ?_)) (fun _ => Has.pos i0 (Has.pos (by omega) ?_)))
  · exact Has.pos (by simp only [ByteArray.size_append, ByteArray.size_extract]; omega) (Has.pos (by simp only [ByteArray.size_append, ByteArray.size_extract]; omega) (Has.now trivial))
  · exact Has.pos (by simp only [ByteArray.size_append, ByteArray.size_extract]; omega) (Has.pos (by omega) (Has.pos (by omega) (Has.pos (by simp only [ByteArray.size_append, ByteArray.size_extract]; omega) (Has.now trivial))))
  · exact Has.pos (by omega) (Has.pos (by omega) (Has.pos (by simp only [ByteArray.size_append, ByteArray.size_extract]; omega) (Has.now trivial)))
theorem draw_parse {c : List Int} (hc : Bytes c) : Has (fun k => spec_DrawParseTenth.f k c) (fun _ => True) := by
  unfold spec_DrawParseTenth.f
  refine Has.bind (pick hc 0 801 (by omega) (by omega)) fun r ⟨r0, r1, _, r3, r4⟩ => ?_
  have r5 := r1 (by omega)
  rw [show wrap64 (r.1 - 400) = r.1 - 400 from w64 (by omega) (by omega)]
  obtain ⟨s, s1, _, s3, s4, _⟩ := texts (r.1 - 400) (by omega) (by omega)
  refine Has.ev s1 (Has.bind (one hc r.2.2 3 (by omega) (by omega)) fun q ⟨q1, q2⟩ => Has.ite (fun _ => ?_) (fun _ => Has.now trivial))
  exact Has.bind (spoilt2 hc q.2.2 s s3 s4 _ rfl (by omega) (by omega)) fun v _ => Has.now trivial
theorem draw_alarm {c : List Int} (hc : Bytes c) : Has (fun k => spec_DrawLongestAlarm.f k c) (fun r => r.1.length ≤ 30) := by
  unfold spec_DrawLongestAlarm.f spec_DrawBadReadings.f
  refine Has.bind (P := fun r => r.1.length ≤ 30) ?_ fun a ha => Has.now ha
  refine Has.bind (draw_log hc 0 (by omega) (by omega)) fun a ⟨a1, a2, a3⟩ => Has.bind (among hc a.2.2 _ (by simp) (by omega) (by omega)) fun b ⟨_, b2, b3⟩ => ?_
  exact Has.val (amongCut hc b.2.2 _ 5 (by omega) (by simp) (by simp) (by omega) (by omega) fun r _ _ _ => Has.now a1)
theorem draw_add {c : List Int} (hc : Bytes c) : Has (fun k => spec_DrawAddReading.f k c) (fun r => r.1.length ≤ 30) := by
  unfold spec_DrawAddReading.f
  refine Has.bind (draw_log hc 0 (by omega) (by omega)) fun a ⟨a1, a2, a3⟩ => Has.bind (among hc a.2.2 _ (by simp) (by omega) (by omega)) fun b ⟨_, b2, b3⟩ => Has.val (Has.bind (pick hc b.2.2 12 (by omega) (by omega)) fun r ⟨r0, r1, _, r3, r4⟩ => ?_)
  have r5 := r1 (by omega)
  have e : wrap64 (2 + wrap64 (Int.tdiv r.1 11)) = 2 + r.1 / 11 := by
    rw [Int.tdiv_eq_ediv_of_nonneg r0, w64 (x := r.1 / 11) (by omega) (by omega), w64 (by omega) (by omega)]
  rw [e]
  refine Has.pos (by omega) (Has.pos (by show 2 + r.1 / 11 ≤ 3; omega) (Has.bind (among hc (a := r.2.1) r.2.2 _ ?_ (by omega) (by omega)) fun q ⟨q0, q1, q2⟩ => Has.bind (one hc q.2.2 2 (by omega) (by omega)) fun u _ => Has.now a1))
  intro h
  have h2 := congrArg List.length h
  rw [List.length_take, List.length_nil, show ([(-180), 400, 401] : List Int).length = 3 from rfl] at h2
  omega
theorem Ev.uniq {α : Type} {g : Nat → Option α} {a b : α} (h1 : Ev g a) (h2 : Ev g b) : a = b := by
  obtain ⟨m, hm⟩ := h1
  obtain ⟨n, hn⟩ := h2
  exact Option.some.inj ((hm (m + n) (by omega)).symm.trans (hn (m + n) (by omega)))
/-- A bad reading's hour, among the first n. -/
def BadAt (xs : List S41) (s t : Int) (n : Nat) (h : Int) : Prop := ∃ j : Nat, j < n ∧ ¬ fine (rd_T41 xs j) s t ∧ h = (rd_T41 xs j).f0
theorem BadAt.up {xs : List S41} {s t : Int} {n : Nat} {h : Int} (b : BadAt xs s t n h) : BadAt xs s t (n + 1) h := by
  obtain ⟨j, a, b⟩ := b
  exact ⟨j, by omega, b⟩
theorem BadAt.down {xs : List S41} {s t : Int} {n : Nat} {h : Int} (f : fine (rd_T41 xs n) s t) (b : BadAt xs s t (n + 1) h) : BadAt xs s t n h := by
  obtain ⟨j, a, c, d⟩ := b
  refine ⟨j, ?_, c, d⟩
  rcases Nat.lt_or_ge j n with q | q
  · exact q
  · obtain rfl : j = n := by omega
    exact absurd f c
theorem upd_true (f h a b : Int) (fd : Bool) : (upd f h a b fd).2.2 = true := by
  unfold upd
  split
  · rename_i q
    exact q.1
  · rfl
theorem upd_has (P : Int → Prop) (f h a b : Int) (fd : Bool) (ha : fd = true → P a ∧ P b) (hf : P f) (hh : P h) : P (upd f h a b fd).1 ∧ P (upd f h a b fd).2.1 := by
  unfold upd
  split
  · rename_i q
    exact ha q.1
  · exact ⟨hf, hh⟩
theorem alarmFacts (xs : List S41) (s t : Int) (hl : xs.length ≤ 20) (hv : ∀ i, i < xs.length → vR xs i) (hs : -300 ≤ s ∧ s ≤ 300) : ∀ d i : Nat, i + d = xs.length → ∀ (a b c : Int) (f : Bool), (a ≤ b ∧ b - a ≤ 240) → (f = true ↔ ∃ h, BadAt xs s t i h) → (f = true → BadAt xs s t i a ∧ BadAt xs s t i b) → (0 ≤ c → BadAt xs s t i c) →
    ∃ r : Int × Int × Bool, Ev (fun k => impl_LongestAlarm.l0 k s t a b f c xs xs.length (i : Int)) r ∧ (r.2.2 = true ↔ ∃ h, BadAt xs s t xs.length h) ∧ (r.2.2 = true → BadAt xs s t xs.length r.1 ∧ BadAt xs s t xs.length r.2.1 ∧ r.1 ≤ r.2.1) := by
  intro d
  induction d with
  | zero =>
    intro i hi a b c f hab h1 h2 h3
    obtain rfl : i = xs.length := by omega
    exact ⟨(a, b, f), Ev.step (fun k => impl_LongestAlarm.l0.eq_2 ..) (Ev.neg (by omega) (Ev.now _)), h1, fun q => ⟨(h2 q).1, (h2 q).2, hab.1⟩⟩
  | succ d ih =>
    intro i hi a b c f hab h1 h2 h3
    have hlt : i < xs.length := by omega
    by_cases hf : fine (rd_T41 xs i) s t
    · obtain ⟨r, r1, r2⟩ := ih (i + 1) (by omega) a b (-1) f hab (h1.trans ⟨fun ⟨h, q⟩ => ⟨h, q.up⟩, fun ⟨h, q⟩ => ⟨h, q.down hf⟩⟩) (fun q => ⟨(h2 q).1.up, (h2 q).2.up⟩) (fun q => by omega)
      exact ⟨r, im_fine xs s t hl hv hs i hlt hf a b c f r r1, r2⟩
    · have now : BadAt xs s t (i + 1) (rd_T41 xs i).f0 := ⟨i, by omega, hf, rfl⟩
      have x0 := (hv i hlt).1
      by_cases hc : c < 0
      · obtain ⟨r, r1, r2⟩ := ih (i + 1) (by omega) _ _ (rd_T41 xs i).f0 (upd (rd_T41 xs i).f0 (rd_T41 xs i).f0 a b f).2.2 (upd_bounds _ _ a b f ⟨x0.1, Int.le_refl _, x0.2⟩ hab) ⟨fun _ => ⟨_, now⟩, fun _ => upd_true _ _ _ _ _⟩
          (fun _ => upd_has (BadAt xs s t (i + 1)) _ _ a b f (fun q => ⟨(h2 q).1.up, (h2 q).2.up⟩) now now) (fun _ => now)
        exact ⟨r, im_first xs s t hl hv hs i hlt hf a b c hc hab f r r1, r2⟩
      · have cb := h3 (by omega)
        obtain ⟨j, j1, j2, j3⟩ := cb
        have y0 := (hv j (by omega)).1
        have le := rise_at xs hv j i (by omega) hlt
        obtain ⟨r, r1, r2⟩ := ih (i + 1) (by omega) _ _ c (upd c (rd_T41 xs i).f0 a b f).2.2 (upd_bounds c (rd_T41 xs i).f0 a b f ⟨by omega, by omega, x0.2⟩ hab) ⟨fun _ => ⟨_, now⟩, fun _ => upd_true _ _ _ _ _⟩
          (fun _ => upd_has (BadAt xs s t (i + 1)) _ _ a b f (fun q => ⟨(h2 q).1.up, (h2 q).2.up⟩) (h3 (by omega)).up now) (fun q => (h3 q).up)
        exact ⟨r, im_next xs s t hl hv hs i hlt hf a b c ⟨by omega, by omega⟩ hab f r r1, r2⟩
theorem badFacts (xs : List S41) (s t : Int) (hl : xs.length ≤ 20) (hv : ∀ i, i < xs.length → vR xs i) (hs : -300 ≤ s ∧ s ≤ 300) : ∀ d i : Nat, i + d = xs.length → ∀ o : List Int, o.length ≤ i → (∀ h, h ∈ o ↔ BadAt xs s t i h) →
    ∃ r : List Int, Ev (fun k => impl_BadReadings.l0 k s t o xs xs.length (i : Int)) (r, true) ∧ ∀ h, h ∈ r ↔ BadAt xs s t xs.length h := by
  intro d
  induction d with
  | zero =>
    intro i hi o ho hm
    obtain rfl : i = xs.length := by omega
    exact ⟨o, Ev.step (fun k => impl_BadReadings.l0.eq_2 ..) (Ev.neg (by omega) (Ev.now _)), hm⟩
  | succ d ih =>
    intro i hi o ho hm
    have w1 : wrap64 ((i : Int) + 1) = ((i + 1 : Nat) : Int) := by rw [w64 (by omega) (by omega)]; rfl
    obtain ⟨z, hz, hzf⟩ := size_eq (rd_T41 xs i) s t (hv i (by omega)).2.1 hs
    by_cases hf : fine (rd_T41 xs i) s t
    · obtain ⟨r, r2, r3⟩ := ih (i + 1) (by omega) o (by omega) (fun h => (hm h).trans ⟨fun q => q.up, fun q => q.down hf⟩)
      rw [← w1] at r2
      exact ⟨r, Ev.step (fun k => impl_BadReadings.l0.eq_2 ..) (Ev.pos (by omega) (Ev.pos (by omega) (Ev.pos (by omega) (Ev.const hz (Ev.neg (fun q => by have := hzf.2 hf; omega) r2))))), r3⟩
    · obtain ⟨r, r2, r3⟩ := ih (i + 1) (by omega) (o ++ [(rd_T41 xs i).f0]) (by simp; omega) (fun h => by
        rw [List.mem_append, List.mem_singleton, hm h]
        refine ⟨fun q => q.elim (fun q => q.up) (fun q => ⟨i, by omega, hf, q⟩), fun ⟨j, a, b, c⟩ => ?_⟩
        rcases Nat.lt_or_ge j i with q | q
        · exact Or.inl ⟨j, q, b, c⟩
        · obtain rfl : j = i := by omega
          exact Or.inr c)
      rw [← w1] at r2
      exact ⟨r, Ev.step (fun k => impl_BadReadings.l0.eq_2 ..) (Ev.pos (by omega) (Ev.pos (by omega) (Ev.pos (by omega) (Ev.const hz (Ev.pos (Int.not_le.1 (fun q => hf (hzf.1 q))) (Ev.pos (by omega) r2)))))), r3⟩
theorem alarmBad (xs : List S41) (hl : xs.length ≤ 1048576) (s t : Int) : ∃ (r : Int × Int × Bool) (q : List Int × Bool), Ev (fun k => spec_LongestAlarm.f k xs s t) r ∧ Ev (fun k => impl_LongestAlarm.f k xs s t) r ∧ Ev (fun k => spec_BadReadings.f k xs s t) q ∧ Ev (fun k => impl_BadReadings.f k xs s t) q ∧ q.1.length ≤ 20 ∧
    (q.2 = true → (r.2.2 = true ↔ 0 < q.1.length) ∧ (r.2.2 = true → r.1 ∈ q.1 ∧ r.2.1 ∈ q.1 ∧ r.1 ≤ r.2.1)) := by
  obtain ⟨r, r1, r2⟩ := alarm xs hl s t
  obtain ⟨q, q1, q2, q3⟩ := bad xs hl s t
  refine ⟨r, q, r1, r2, q1, q2, q3, fun told => ?_⟩
  obtain ⟨b, _, b2, b3⟩ := setting xs hl s t
  cases b with
  | false =>
    have n : Ev (fun k => impl_BadReadings.f k xs s t) ([], false) := by
      unfold impl_BadReadings.f
      exact Ev.bind b2 (Ev.neg (by simp) (Ev.now _))
    rw [Ev.uniq q2 n] at told
    cases told
  | true =>
    obtain ⟨⟨l20, hv⟩, hs, ht⟩ := b3.1 rfl
    have no : ∀ h, ¬ BadAt xs s t 0 h := fun h p => by
      obtain ⟨j, a, _⟩ := p
      omega
    obtain ⟨u, u1, u2, u3⟩ := alarmFacts xs s t l20 hv hs xs.length 0 (by omega) 0 0 (-1) false (by omega) ⟨(fun h => by cases h), fun ⟨h, p⟩ => absurd p (no h)⟩ (fun h => by cases h) (fun h => by omega)
    obtain ⟨v, v1, v2⟩ := badFacts xs s t l20 hv hs xs.length 0 (by omega) [] (by simp) (fun h => ⟨fun p => by simp at p, fun p => absurd p (no h)⟩)
    have m1 : Ev (fun k => impl_LongestAlarm.f k xs s t) u := by
      unfold impl_LongestAlarm.f
      exact Ev.bind b2 (Ev.pos rfl u1)
    have m2 : Ev (fun k => impl_BadReadings.f k xs s t) (v, true) := by
      unfold impl_BadReadings.f
      exact Ev.bind b2 (Ev.pos rfl v1)
    obtain rfl := Ev.uniq r2 m1
    obtain rfl := Ev.uniq q2 m2
    refine ⟨u2.trans ⟨fun ⟨h, p⟩ => List.length_pos_of_mem ((v2 h).2 p), fun p => ?_⟩, fun p => ?_⟩
    · exact ⟨v[0], (v2 _).1 (List.getElem_mem p)⟩
    · obtain ⟨a1, a2, a3⟩ := u3 p
      exact ⟨(v2 _).2 a1, (v2 _).2 a2, a3⟩
theorem rHas (l : List Int) (hl : l.length ≤ 1000000) (a : Int) : Ev (fun k => laws_rHas.f k l a) (decide (a ∈ l)) := by
  unfold laws_rHas.f
  have main : ∀ d i : Nat, i + d = l.length → Ev (fun k => laws_rHas.l0 k l a i) (decide (a ∈ l.drop i)) := by
    intro d
    induction d with
    | zero =>
      intro i hi
      exact Ev.step (fun k => laws_rHas.l0.eq_2 ..) (Ev.neg (by omega) (Ev.eq (Ev.now _) (by simp [List.drop_of_length_le (show l.length ≤ i by omega)])))
    | succ d ih =>
      intro i hi
      have w1 : wrap64 ((i : Int) + 1) = ((i + 1 : Nat) : Int) := by rw [w64 (by omega) (by omega)]; rfl
      have e : rd l (i : Int) = l[i]'(by omega) := by
        unfold rd
        rw [Int.toNat_natCast]
        exact getD_of (List.getElem?_eq_getElem (by omega))
      refine Ev.step (fun k => laws_rHas.l0.eq_2 ..) (Ev.pos (by omega) (Ev.pos (by omega) ?_))
      rw [e, w1, List.drop_eq_getElem_cons (by omega)]
      by_cases c : l[i]'(by omega) = a
      · exact Ev.pos c (Ev.eq (Ev.now _) (decide_eq_true (List.mem_cons.2 (Or.inl c.symm))).symm)
      · refine Ev.neg c (Ev.eq (ih (i + 1) (by omega)) ?_)
        have : ¬ a = l[i]'(by omega) := fun h => c h.symm
        exact decide_eq_decide.2 ⟨fun h => List.mem_cons_of_mem _ h, fun h => (List.mem_cons.1 h).resolve_left this⟩
  exact main l.length 0 (by omega)
theorem rInts (xs : List Int) (hl : xs.length ≤ 1048577) : Ev (fun k => laws_rInts.f k xs xs) true := by
  unfold laws_rInts.f
  have main : ∀ d i : Nat, i + d = xs.length → Ev (fun k => laws_rInts.l0 k xs xs i) true := by
    intro d
    induction d with
    | zero =>
      intro i hi
      exact Ev.step (fun k => laws_rInts.l0.eq_2 ..) (Ev.neg (by omega) (Ev.now _))
    | succ d ih =>
      intro i hi
      refine Ev.step (fun k => laws_rInts.l0.eq_2 ..) (Ev.pos (by omega) (Ev.pos (by omega) (Ev.pos (by omega) (Ev.pos rfl ?_))))
      rw [show wrap64 ((i : Int) + 1) = ((i + 1 : Nat) : Int) from by rw [w64 (by omega) (by omega)]; rfl]
      exact ih (i + 1) (by omega)
  exact Ev.pos rfl (main xs.length 0 (by omega))
theorem rReadings (xs : List S41) (hl : xs.length ≤ 1048577) : Ev (fun k => laws_rReadings.f k xs xs) true := by
  unfold laws_rReadings.f
  have main : ∀ d i : Nat, i + d = xs.length → Ev (fun k => laws_rReadings.l0 k xs xs i) true := by
    intro d
    induction d with
    | zero =>
      intro i hi
      exact Ev.step (fun k => laws_rReadings.l0.eq_2 ..) (Ev.neg (by omega) (Ev.now _))
    | succ d ih =>
      intro i hi
      refine Ev.step (fun k => laws_rReadings.l0.eq_2 ..) (Ev.pos (by omega) (Ev.pos (by omega) (Ev.pos (by omega) (Ev.neg (by simp) ?_))))
      rw [show wrap64 ((i : Int) + 1) = ((i + 1 : Nat) : Int) from by rw [w64 (by omega) (by omega)]; rfl]
      exact ih (i + 1) (by omega)
  exact Ev.pos rfl (main xs.length 0 (by omega))
theorem readings5 {c : List Int} (hc : Bytes c) : Has (fun k => laws_FnReadings.j5 k c false) (fun r => r = true) := by
  refine Has.step (fun k => laws_FnReadings.j5.eq_2 ..) (Has.neg (by simp) (Has.bind (draw_add hc) fun x hx => ?_))
  obtain ⟨r, h1, h2, h3, h4⟩ := addReading x.1 (by omega) x.2.1 x.2.2.1 x.2.2.2
  refine Has.ev h2 (Has.ev h1 (Has.pos (by simp) (Has.ev (rReadings r.1 (by omega)) (Has.pos rfl (Has.ite (fun hr => ?_) (fun _ => Has.now rfl))))))
  obtain ⟨e, hL⟩ := h4 hr
  obtain ⟨b, _, b2, b3⟩ := readings r.1 (by omega)
  rw [show wrap64 ((x.1.length : Int) + 1) = (x.1.length : Int) + 1 from w64 (by omega) (by omega)]
  exact Has.pos (by omega) (Has.ev b2 (Has.now (b3.2 hL)))
theorem readings4 {c : List Int} (hc : Bytes c) (r : Int × Int × Bool) (q : List Int × Bool) (hq : q.1.length ≤ 20) (h : q.2 = true → (r.2.2 = true ↔ 0 < q.1.length) ∧ (r.2.2 = true → r.1 ∈ q.1 ∧ r.2.1 ∈ q.1 ∧ r.1 ≤ r.2.1)) :
    Has (fun k => laws_FnReadings.j4 k c r.1 r.2.1 r.2.2 q.1 q.2 false) (fun r => r = true) := by
  refine Has.step (fun k => laws_FnReadings.j4.eq_2 ..) (Has.neg (by simp) (Has.ite (fun hq' => ?_) (fun _ => readings5 hc)))
  obtain ⟨h1, h2⟩ := h hq'
  have e : r.2.2 = decide ((q.1.length : Int) > 0) := by
    rw [Bool.eq_iff_iff, decide_eq_true_iff, h1]
    omega
  refine Has.neg (by rw [← e]; simp) (Has.ite (fun hr => ?_) (fun _ => readings5 hc))
  obtain ⟨m1, m2, m3⟩ := h2 hr
  refine Has.ev (rHas q.1 (by omega) r.1) (Has.pos (decide_eq_true m1) (Has.ev (rHas q.1 (by omega) r.2.1) (Has.pos (decide_eq_true m2) ?_)))
  rw [show decide (r.1 > r.2.1) = false from decide_eq_false (by omega)]
  exact readings5 hc
theorem readings1 {c : List Int} (hc : Bytes c) : Has (fun k => laws_FnReadings.j1 k c false) (fun r => r = true) := by
  refine Has.step (fun k => laws_FnReadings.j1.eq_2 ..) (Has.neg (by simp) (Has.bind (draw_parse hc) fun x _ => ?_))
  obtain ⟨p, p1, p2⟩ := parse x
  refine Has.ev p2 (Has.ev p1 (Has.pos rfl (Has.step (fun k => laws_FnReadings.j2.eq_2 ..) (Has.neg (by simp) (Has.bind (draw_alarm hc) fun y hy => ?_)))))
  obtain ⟨r, q, h1, h2, h3, h4, h5, h6⟩ := alarmBad y.1 (by omega) y.2.1 y.2.2
  refine Has.ev h2 (Has.ev h1 (Has.pos rfl (Has.pos rfl (Has.step (fun k => laws_FnReadings.j3.eq_2 ..) (Has.neg (by simp) (Has.ev h4 (Has.ev h3 (Has.neg (by simp) (Has.ev (rInts q.1 (by omega)) ?_)))))))))
  exact readings4 hc r q h5 h6
theorem FnReadings : ∀ (l0 : (List Int)), (l0.length ≤ 9223372036854775807 ∧ ∀ x ∈ l0, (Lit.int .u8 x).wf = true) → ∃ k, laws_FnReadings.f k l0 = some true := by
  intro l0 ⟨_, hw⟩
  have hc : Bytes l0 := bytes_wf hw
  suffices h : Has (fun k => laws_FnReadings.f k l0) (fun r => r = true) by
    obtain ⟨r, hr, rfl⟩ := h
    exact Ev.rounds hr
  unfold laws_FnReadings.f laws_rBig.f
  refine Has.val (Has.ite (fun _ => Has.now rfl) (fun _ => ?_))
  unfold spec_DrawTenthText.f
  refine Has.bind (P := fun _ => True) (Has.bind (among hc 0 _ (by simp) (by omega) (by omega)) fun r _ => Has.now trivial) fun t _ => ?_
  obtain ⟨r, r1, r2, r3⟩ := tenthText t
  refine Has.const r2 (Has.ev r1 (Has.pos rfl (Has.step (fun k => laws_FnReadings.j0.eq_2 ..) (Has.neg (by simp) ?_))))
  by_cases hr : r.2 = true
  · obtain ⟨ht, hs⟩ := r3 hr
    refine Has.ev (parseBack t ht.1 ht.2 r.1 hs) (Has.pos hr (Has.pos rfl ?_))
    rw [show ((t, true).1 != t) = false from by simp]
    exact readings1 hc
  · obtain ⟨p, _, p2⟩ := parse r.1
    exact Has.ev p2 (Has.neg hr (readings1 hc))
end Go.Proofs.YtpelcaijjdgnoaaDoor.Pure
