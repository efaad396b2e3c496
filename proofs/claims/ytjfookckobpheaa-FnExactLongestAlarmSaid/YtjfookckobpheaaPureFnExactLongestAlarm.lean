/- The program's LongestAlarm returns what the reference's returns, for all arguments; the argument reads as it did. No condition. -/
import Derived.Test.YtjfookckobpheaaInvFnExactLongestAlarm
import Derived.Test.YtjfookckobpheaaWHelp
namespace Go.Proofs.Ytjfookckobpheaa.Pure
open Go.RowKit Go.Proofs.YtjfookckobpheaaW.PrintWords Go.Proofs.YtjfookckobpheaaW.PrintLast Go.Proofs.YtjfookckobpheaaW.PrintMore Go.Proofs.YtjfookckobpheaaW.Help Go.Proofs.Ytjfookckobpheaa.PFnExactLongestAlarm
set_option linter.unusedVariables false

theorem szReadingS (l : List S49) (a : Int) (h0 : 0 ≤ a) (h1 : a ≤ 1048576) (hl : l.length ≤ 9223372036854775807) :
    laws_szReadingS.f l a = some (if a < l.length then -1 else a - l.length) := by
  unfold laws_szReadingS.f
  rw [w64 (by omega) (by omega)]
  by_cases h : a < l.length
  · rw [if_pos (by omega), if_pos h]
  · rw [if_neg (by omega), if_neg h]

def convReading (x : S49) : S52 := ⟨x.f0, x.f1, x.f2⟩

theorem toReadingS (l : List S49) (hl : l.length ≤ 1048576) : Ev (fun k => laws_toReadingS.f k l) (l.map convReading) := by
  unfold laws_toReadingS.f
  refine Ev.pos (by omega) (Ev.pos (by omega) ?_)
  simp only [Int.toNat_natCast]
  refine fill_ev l convReading z52 (fun k ys i => laws_toReadingS.l0 k l ys i) ?_ ?_
  · intro i h ys hy r hr
    refine Ev.step (fun k => laws_toReadingS.l0.eq_2 ..) ?_
    refine Ev.pos (by omega) (Ev.pos (by omega) ?_)
    refine Ev.const (a := (l[i].f0, l[i].f1, l[i].f2)) (by simp [laws_toReading.f, rd_T49, h]) ?_
    refine Ev.pos (by omega) ?_
    rw [w64 (by omega) (by omega)]
    exact hr
  · intro ys hy
    refine Ev.step (fun k => laws_toReadingS.l0.eq_2 ..) ?_
    exact Ev.neg (by omega) (Ev.now _)

theorem eqReadingS (l : List S52) (hl : l.length ≤ 1048576) : Ev (fun k => laws_eqReadingS.f k l l) true := by
  unfold laws_eqReadingS.f
  refine Ev.pos rfl ?_
  refine down_ev l.length (fun k i => laws_eqReadingS.l0 k l l i) ?_ ?_
  · intro i h hr
    refine Ev.step (fun k => laws_eqReadingS.l0.eq_2 ..) ?_
    refine Ev.pos (by omega) (Ev.pos (by omega) (Ev.pos (by omega) ?_))
    refine Ev.const (a := true) (by simp [laws_eqReading.f]) ?_
    refine Ev.pos rfl ?_
    rw [w64 (by omega) (by omega)]
    exact hr
  · refine Ev.step (fun k => laws_eqReadingS.l0.eq_2 ..) ?_
    exact Ev.neg (by omega) (Ev.now _)

theorem l1In_eq (a b c : Int) : spec_l1In.f a b c = some (decide (b ≤ a ∧ a ≤ c)) := by
  unfold spec_l1In.f
  by_cases h : b ≤ a <;> simp [h]

theorem within_eq (a b c : Int) : impl_within.f a b c = some (decide (b ≤ a ∧ a ≤ c)) := by
  unfold impl_within.f
  by_cases h : b ≤ a <;> simp [h]

/-- Reading i of a log is as it should be. -/
def vR (xs : List S52) (i : Nat) : Prop := (0 ≤ (rd_T52 xs i).f0 ∧ (rd_T52 xs i).f0 ≤ 240) ∧ (-400 ≤ (rd_T52 xs i).f1 ∧ (rd_T52 xs i).f1 ≤ 400) ∧ (0 < i → (rd_T52 xs ((i : Int) - 1)).f0 < (rd_T52 xs i).f0)
/-- A valid log. -/
def Log (xs : List S52) : Prop := xs.length ≤ 20 ∧ ∀ i, i < xs.length → vR xs i

theorem readings_at (xs : List S52) (hl : xs.length ≤ 1048576) : ∀ d i : Nat, i + d = xs.length → ∃ b : Bool, Ev (fun k => spec_l21Good.l0 k xs i) b ∧ Ev (fun k => impl_IsValidReadings.l0 k xs xs xs.length i) b ∧
    (b = true ↔ xs.length ≤ 20 ∧ ∀ j, i ≤ j → j < xs.length → vR xs j) := by
  intro d
  induction d with
  | zero =>
    intro i hi
    refine ⟨decide ((xs.length : Int) ≤ 20), Ev.step (fun k => spec_l21Good.l0.eq_2 ..) (Ev.neg (by omega) (Ev.now _)), Ev.step (fun k => impl_IsValidReadings.l0.eq_2 ..) (Ev.neg (by omega) (Ev.now _)), ?_⟩
    rw [decide_eq_true_iff]
    exact ⟨fun h => ⟨by omega, fun j h1 h2 => by omega⟩, fun h => by omega⟩
  | succ d ih =>
    intro i hi
    have w1 : wrap64 ((i : Int) + 1) = ((i + 1 : Nat) : Int) := by rw [w64 (by omega) (by omega)]; rfl
    obtain ⟨b, s1, s2, s3⟩ := ih (i + 1) (by omega)
    have sp : ∀ r, Ev _ r → Ev (fun k => spec_l21Good.l0 k xs i) r := fun r hr => Ev.step (fun k => spec_l21Good.l0.eq_2 ..) (Ev.pos (by omega) (Ev.pos (by omega) (Ev.const (l1In_eq _ _ _) hr)))
    have im : ∀ r, Ev _ r → Ev (fun k => impl_IsValidReadings.l0 k xs xs xs.length i) r := fun r hr => Ev.step (fun k => impl_IsValidReadings.l0.eq_2 ..) (Ev.pos (by omega) (Ev.pos (by omega) (Ev.pos (by omega) (Ev.const (within_eq _ _ _) hr))))
    rw [w1] at sp im
    have no : ∀ h : ¬ vR xs i, ((false : Bool) = true ↔ xs.length ≤ 20 ∧ ∀ j, i ≤ j → j < xs.length → vR xs j) := fun h => ⟨(fun q => by cases q), fun h' => absurd (h'.2 i (by omega) (by omega)) h⟩
    by_cases c1 : 0 ≤ (rd_T52 xs i).f0 ∧ (rd_T52 xs i).f0 ≤ 240
    · by_cases c2 : -400 ≤ (rd_T52 xs i).f1 ∧ (rd_T52 xs i).f1 ≤ 400
      · by_cases c3 : (i : Int) > 0
        · have w2 : wrap64 ((i : Int) - 1) = (i : Int) - 1 := w64 (by omega) (by omega)
          rw [w2] at sp im
          by_cases c4 : (rd_T52 xs i).f0 ≤ (rd_T52 xs ((i : Int) - 1)).f0
          · exact ⟨false, sp _ (Ev.pos (by simp [c1]) (Ev.const (l1In_eq _ _ _) (Ev.pos (by simp [c2]) (Ev.pos c3 (Ev.pos (by omega) (Ev.pos (by omega) (Ev.pos c4 (Ev.now _)))))))),
              im _ (Ev.pos (by simp [c1]) (Ev.const (within_eq _ _ _) (Ev.pos (by simp [c2]) (Ev.pos c3 (Ev.pos (by omega) (Ev.pos (by omega) (Ev.pos c4 (Ev.now _)))))))), no (fun h => by have := h.2.2 (by omega); omega)⟩
          · refine ⟨b, sp _ (Ev.pos (by simp [c1]) (Ev.const (l1In_eq _ _ _) (Ev.pos (by simp [c2]) (Ev.pos c3 (Ev.pos (by omega) (Ev.pos (by omega) (Ev.neg (by omega) s1))))))),
              im _ (Ev.pos (by simp [c1]) (Ev.const (within_eq _ _ _) (Ev.pos (by simp [c2]) (Ev.pos c3 (Ev.pos (by omega) (Ev.pos (by omega) (Ev.neg (by omega) s2))))))), ?_⟩
            rw [s3]
            refine ⟨fun h => ⟨h.1, fun j h1 h2 => ?_⟩, fun h => ⟨h.1, fun j h1 h2 => h.2 j (by omega) h2⟩⟩
            rcases Nat.lt_or_ge i j with hj | hj
            · exact h.2 j hj h2
            · obtain rfl : j = i := by omega
              exact ⟨c1, c2, fun _ => by omega⟩
        · refine ⟨b, sp _ (Ev.pos (by simp [c1]) (Ev.const (l1In_eq _ _ _) (Ev.pos (by simp [c2]) (Ev.neg c3 s1)))), im _ (Ev.pos (by simp [c1]) (Ev.const (within_eq _ _ _) (Ev.pos (by simp [c2]) (Ev.neg c3 s2)))), ?_⟩
          rw [s3]
          refine ⟨fun h => ⟨h.1, fun j h1 h2 => ?_⟩, fun h => ⟨h.1, fun j h1 h2 => h.2 j (by omega) h2⟩⟩
          rcases Nat.lt_or_ge i j with hj | hj
          · exact h.2 j hj h2
          · obtain rfl : j = i := by omega
            exact ⟨c1, c2, fun _ => by omega⟩
      · exact ⟨false, sp _ (Ev.pos (by simp [c1]) (Ev.const (l1In_eq _ _ _) (Ev.neg (by simp; omega) (Ev.now _)))), im _ (Ev.pos (by simp [c1]) (Ev.const (within_eq _ _ _) (Ev.neg (by simp; omega) (Ev.now _)))), no (fun h => c2 h.2.1)⟩
    · exact ⟨false, sp _ (Ev.neg (by simp; omega) (Ev.now _)), im _ (Ev.neg (by simp; omega) (Ev.now _)), no (fun h => c1 h.1)⟩

theorem readings (xs : List S52) (hl : xs.length ≤ 1048576) : ∃ b : Bool, Ev (fun k => spec_l21Good.f k xs) b ∧ Ev (fun k => impl_IsValidReadings.f k xs) b ∧ (b = true ↔ Log xs) := by
  obtain ⟨b, h1, h2, h3⟩ := readings_at xs hl xs.length 0 (by omega)
  exact ⟨b, h1, h2, h3.trans ⟨fun h => ⟨h.1, fun i hi => h.2 i (by omega) hi⟩, fun h => ⟨h.1, fun j _ hj => h.2 j hj⟩⟩⟩

/-- A valid log, a setting and a tolerance: the reference's test and the program's. -/
theorem setting (xs : List S52) (hl : xs.length ≤ 1048576) (s t : Int) : ∃ b : Bool, Ev (fun k => spec_l21Asked.f k xs s t) b ∧ Ev (fun k => impl_isSetting.f k xs s t) b ∧ (b = true ↔ Log xs ∧ (-300 ≤ s ∧ s ≤ 300) ∧ (0 ≤ t ∧ t ≤ 100)) := by
  obtain ⟨b, h1, h2, h3⟩ := readings xs hl
  unfold spec_l21Asked.f impl_isSetting.f
  by_cases hb : b = true
  · subst hb
    by_cases c1 : -300 ≤ s ∧ s ≤ 300
    · by_cases c2 : 0 ≤ t ∧ t ≤ 100
      · exact ⟨true, Ev.bind h1 (Ev.pos rfl (Ev.const (l1In_eq _ _ _) (Ev.pos (by simp [c1]) (Ev.const (l1In_eq _ _ _) (Ev.eq (Ev.now _) (by simp [c2])))))), Ev.bind h2 (Ev.pos rfl (Ev.const (within_eq _ _ _) (Ev.pos (by simp [c1]) (Ev.const (within_eq _ _ _) (Ev.eq (Ev.now _) (by simp [c2])))))), fun _ => ⟨h3.1 rfl, c1, c2⟩, fun _ => rfl⟩
      · exact ⟨false, Ev.bind h1 (Ev.pos rfl (Ev.const (l1In_eq _ _ _) (Ev.pos (by simp [c1]) (Ev.const (l1In_eq _ _ _) (Ev.eq (Ev.now _) (by simp; omega)))))), Ev.bind h2 (Ev.pos rfl (Ev.const (within_eq _ _ _) (Ev.pos (by simp [c1]) (Ev.const (within_eq _ _ _) (Ev.eq (Ev.now _) (by simp; omega)))))), (fun h => by cases h), fun h => absurd h.2.2 c2⟩
    · exact ⟨false, Ev.bind h1 (Ev.pos rfl (Ev.const (l1In_eq _ _ _) (Ev.neg (by simp; omega) (Ev.now _)))), Ev.bind h2 (Ev.pos rfl (Ev.const (within_eq _ _ _) (Ev.neg (by simp; omega) (Ev.now _)))), (fun h => by cases h), fun h => absurd h.2.1 c1⟩
  · exact ⟨false, Ev.bind h1 (Ev.neg hb (Ev.now _)), Ev.bind h2 (Ev.neg hb (Ev.now _)), (fun h => by cases h), fun h => absurd (h3.2 h.1) hb⟩
/-- Is a reading good? -/
def fine (x : S52) (s t : Int) : Prop := s - t ≤ x.f1 ∧ x.f1 ≤ s + t
instance (x : S52) (s t : Int) : Decidable (fine x s t) := by unfold fine; infer_instance
theorem fine_eq (x : S52) (s t : Int) (hs : -300 ≤ s ∧ s ≤ 300) (ht : 0 ≤ t ∧ t ≤ 100) : spec_l21Fine.f x.f0 x.f1 x.f2 s t = some (decide (fine x s t)) := by
  unfold spec_l21Fine.f
  rw [w64 (by omega) (by omega), w64 (by omega) (by omega), l1In_eq]
  rfl
theorem size_eq (x : S52) (s t : Int) (hx : -400 ≤ x.f1 ∧ x.f1 ≤ 400) (hs : -300 ≤ s ∧ s ≤ 300) : ∃ z, impl_size.f (wrap64 (x.f1 - s)) = some z ∧ (z ≤ t ↔ fine x s t) := by
  refine ⟨_, rfl, ?_⟩
  unfold fine mx
  rw [w64 (x := x.f1 - s) (by omega) (by omega), w64 (x := -(x.f1 - s)) (by omega) (by omega)]
  split <;> omega

/-- What a run from hour f to hour h makes of the longest one so far. -/
def upd (f h from_ to_ : Int) (found : Bool) : Int × Int × Bool := if found = true ∧ h - f ≤ to_ - from_ then (from_, to_, found) else (f, h, true)

/-- One round of the program: a good reading. -/
theorem im_fine (xs : List S52) (s t : Int) (hl : xs.length ≤ 20) (hv : ∀ i, i < xs.length → vR xs i) (hs : -300 ≤ s ∧ s ≤ 300) (i : Nat) (hi : i < xs.length) (hf : fine (rd_T52 xs i) s t) (a b c : Int) (f : Bool) (r : Int × Int × Bool) (h : Ev (fun k => impl_LongestAlarm.l0 k s t a b f (-1) xs xs.length ((i + 1 : Nat) : Int)) r) :
    Ev (fun k => impl_LongestAlarm.l0 k s t a b f c xs xs.length (i : Int)) r := by
  obtain ⟨z, hz, hzf⟩ := size_eq (rd_T52 xs i) s t (hv i hi).2.1 hs
  have w1 : wrap64 ((i : Int) + 1) = ((i + 1 : Nat) : Int) := by rw [w64 (by omega) (by omega)]; rfl
  refine Ev.step (fun k => impl_LongestAlarm.l0.eq_2 ..) (Ev.pos (by omega) (Ev.pos (by omega) (Ev.pos (by omega) (Ev.const hz (Ev.pos (hzf.2 hf) ?_)))))
  rw [w1]
  exact h
/-- One round of the program: a bad reading behind a good one, or the first. -/
theorem im_first (xs : List S52) (s t : Int) (hl : xs.length ≤ 20) (hv : ∀ i, i < xs.length → vR xs i) (hs : -300 ≤ s ∧ s ≤ 300) (i : Nat) (hi : i < xs.length) (hf : ¬ fine (rd_T52 xs i) s t) (a b c : Int) (hc : c < 0) (hab : a ≤ b ∧ b - a ≤ 240) (f : Bool) (r : Int × Int × Bool)
    (h : Ev (fun k => impl_LongestAlarm.l0 k s t (upd (rd_T52 xs i).f0 (rd_T52 xs i).f0 a b f).1 (upd (rd_T52 xs i).f0 (rd_T52 xs i).f0 a b f).2.1 (upd (rd_T52 xs i).f0 (rd_T52 xs i).f0 a b f).2.2 (rd_T52 xs i).f0 xs xs.length ((i + 1 : Nat) : Int)) r) :
    Ev (fun k => impl_LongestAlarm.l0 k s t a b f c xs xs.length (i : Int)) r := by
  obtain ⟨z, hz, hzf⟩ := size_eq (rd_T52 xs i) s t (hv i hi).2.1 hs
  have w1 : wrap64 ((i : Int) + 1) = ((i + 1 : Nat) : Int) := by rw [w64 (by omega) (by omega)]; rfl
  refine Ev.step (fun k => impl_LongestAlarm.l0.eq_2 ..) (Ev.pos (by omega) (Ev.pos (by omega) (Ev.pos (by omega) (Ev.const hz (Ev.neg (fun q => hf (hzf.1 q)) (Ev.pos hc ?_))))))
  rw [w1, w64 (x := (rd_T52 xs i).f0 - (rd_T52 xs i).f0) (by omega) (by omega), w64 (x := b - a) (by omega) (by omega)]
  unfold upd at h
  cases f with
  | true =>
    rw [if_pos ⟨rfl, by omega⟩] at h
    exact Ev.pos rfl (Ev.neg (by omega) h)
  | false =>
    rw [if_neg (by simp)] at h
    exact Ev.neg (by simp) h
/-- One round of the program: a further bad reading. -/
theorem im_next (xs : List S52) (s t : Int) (hl : xs.length ≤ 20) (hv : ∀ i, i < xs.length → vR xs i) (hs : -300 ≤ s ∧ s ≤ 300) (i : Nat) (hi : i < xs.length) (hf : ¬ fine (rd_T52 xs i) s t) (a b c : Int) (hc : 0 ≤ c ∧ c ≤ 240) (hab : a ≤ b ∧ b - a ≤ 240) (f : Bool) (r : Int × Int × Bool)
    (h : Ev (fun k => impl_LongestAlarm.l0 k s t (upd c (rd_T52 xs i).f0 a b f).1 (upd c (rd_T52 xs i).f0 a b f).2.1 (upd c (rd_T52 xs i).f0 a b f).2.2 c xs xs.length ((i + 1 : Nat) : Int)) r) :
    Ev (fun k => impl_LongestAlarm.l0 k s t a b f c xs xs.length (i : Int)) r := by
  obtain ⟨z, hz, hzf⟩ := size_eq (rd_T52 xs i) s t (hv i hi).2.1 hs
  have hx := (hv i hi).1
  have w1 : wrap64 ((i : Int) + 1) = ((i + 1 : Nat) : Int) := by rw [w64 (by omega) (by omega)]; rfl
  refine Ev.step (fun k => impl_LongestAlarm.l0.eq_2 ..) (Ev.pos (by omega) (Ev.pos (by omega) (Ev.pos (by omega) (Ev.const hz (Ev.neg (fun q => hf (hzf.1 q)) (Ev.neg (by omega) ?_))))))
  rw [w1, w64 (x := (rd_T52 xs i).f0 - c) (by omega) (by omega), w64 (x := b - a) (by omega) (by omega)]
  unfold upd at h
  cases f with
  | true =>
    by_cases q : (rd_T52 xs i).f0 - c ≤ b - a
    · rw [if_pos ⟨rfl, q⟩] at h
      exact Ev.pos rfl (Ev.neg (by omega) h)
    · rw [if_neg (fun w => q w.2)] at h
      exact Ev.pos rfl (Ev.pos (by omega) h)
  | false =>
    rw [if_neg (by simp)] at h
    exact Ev.neg (by simp) h

theorem upd_bounds (f h a b : Int) (fd : Bool) (hf : 0 ≤ f ∧ f ≤ h ∧ h ≤ 240) (hab : a ≤ b ∧ b - a ≤ 240) : (upd f h a b fd).1 ≤ (upd f h a b fd).2.1 ∧ (upd f h a b fd).2.1 - (upd f h a b fd).1 ≤ 240 := by
  unfold upd
  split
  · exact hab
  · show f ≤ h ∧ h - f ≤ 240
    omega
theorem upd_upd (f h h' a b : Int) (fd : Bool) (hh : h ≤ h') : upd f h' (upd f h a b fd).1 (upd f h a b fd).2.1 (upd f h a b fd).2.2 = upd f h' a b fd := by
  unfold upd
  by_cases c : fd = true ∧ h - f ≤ b - a
  · rw [if_pos c]
  · rw [if_neg c]
    show (if true = true ∧ h' - f ≤ h - f then (f, h, true) else (f, h', true)) = _
    by_cases c2 : fd = true ∧ h' - f ≤ b - a
    · exact absurd ⟨c2.1, by omega⟩ c
    · rw [if_neg c2]
      split
      · have : h = h' := by omega
        rw [this]
      · rfl

theorem rise_at (xs : List S52) (hv : ∀ i, i < xs.length → vR xs i) (i j : Nat) (hij : i ≤ j) (hj : j < xs.length) : (rd_T52 xs i).f0 ≤ (rd_T52 xs j).f0 := by
  induction j with
  | zero =>
    obtain rfl : i = 0 := by omega
    omega
  | succ j ih =>
    rcases Nat.lt_or_ge j i with h | h
    · obtain rfl : i = j + 1 := by omega
      omega
    · have := ih h (by omega)
      have h3 := (hv (j + 1) hj).2.2 (by omega)
      rw [show (((j + 1 : Nat) : Int) - 1) = (j : Int) by omega] at h3
      omega

/-- From reading i on, no run open; and from reading k of a run that began at i on. -/
theorem alarms (xs : List S52) (s t : Int) (hl : xs.length ≤ 20) (hv : ∀ i, i < xs.length → vR xs i) (hs : -300 ≤ s ∧ s ≤ 300) (ht : 0 ≤ t ∧ t ≤ 100) : ∀ d i : Nat, i + d = xs.length → ∀ (a b : Int) (f : Bool), (a ≤ b ∧ b - a ≤ 240) → 
    (∃ r, Ev (fun k => spec_LongestAlarm.l0 k xs s t a b f (i : Int)) r ∧ ∀ c : Int, c < 0 → Ev (fun k => impl_LongestAlarm.l0 k s t a b f c xs xs.length (i : Int)) r) ∧
    (∀ i0 : Nat, i0 < i → ∃ r, Ev (fun k => spec_LongestAlarm.l1 k xs s t a b f (i0 : Int) (i : Int)) r ∧
      Ev (fun k => impl_LongestAlarm.l0 k s t (upd (rd_T52 xs i0).f0 (rd_T52 xs ((i : Int) - 1)).f0 a b f).1 (upd (rd_T52 xs i0).f0 (rd_T52 xs ((i : Int) - 1)).f0 a b f).2.1 (upd (rd_T52 xs i0).f0 (rd_T52 xs ((i : Int) - 1)).f0 a b f).2.2 (rd_T52 xs i0).f0 xs xs.length (i : Int)) r) := by
  intro d
  induction d using Nat.strongRecOn with
  | _ d ih =>
  intro i hi a b f hab
  -- behind a run's end at place i (the reading there is good, or there is none)
  have close : ∀ i0 : Nat, i0 < i → (i < xs.length → fine (rd_T52 xs i) s t) → ∃ r, Ev (fun k => spec_LongestAlarm.j2 k xs s t a b f (i0 : Int) (i : Int)) r ∧
      Ev (fun k => impl_LongestAlarm.l0 k s t (upd (rd_T52 xs i0).f0 (rd_T52 xs ((i : Int) - 1)).f0 a b f).1 (upd (rd_T52 xs i0).f0 (rd_T52 xs ((i : Int) - 1)).f0 a b f).2.1 (upd (rd_T52 xs i0).f0 (rd_T52 xs ((i : Int) - 1)).f0 a b f).2.2 (rd_T52 xs i0).f0 xs xs.length (i : Int)) r := by
    intro i0 h0 hfi
    have q1 : ¬ ((i : Int) = (i0 : Int)) := by omega
    have q2 : 0 ≤ (i0 : Int) := by omega
    have q3 : (i0 : Int) < (xs.length : Int) := by omega
    have q4 : 0 ≤ (i : Int) - 1 := by omega
    have q5 : (i : Int) - 1 < (xs.length : Int) := by omega
    have e1 : ((i : Int) - 1) = ((i - 1 : Nat) : Int) := by omega
    have b0 := (hv i0 (by omega)).1
    have b1 := (hv (i - 1) (by omega)).1
    have b2 := rise_at xs hv i0 (i - 1) (by omega) (by omega)
    rw [← e1] at b1 b2
    have ub := upd_bounds (rd_T52 xs i0).f0 (rd_T52 xs ((i : Int) - 1)).f0 a b f ⟨b0.1, b2, b1.2⟩ hab
    have w1 : wrap64 ((i : Int) - 1) = (i : Int) - 1 := w64 (by omega) (by omega)
    have w2 : wrap64 ((i : Int) + 1) = ((i + 1 : Nat) : Int) := by rw [w64 (by omega) (by omega)]; rfl
    have w3 : wrap64 ((rd_T52 xs ((i : Int) - 1)).f0 - (rd_T52 xs i0).f0) = (rd_T52 xs ((i : Int) - 1)).f0 - (rd_T52 xs i0).f0 := w64 (by omega) (by omega)
    have w4 : wrap64 (b - a) = b - a := w64 (by omega) (by omega)
    -- what the reference does with the run
    have sp : ∀ r, Ev (fun k => spec_LongestAlarm.l0 k xs s t (upd (rd_T52 xs i0).f0 (rd_T52 xs ((i : Int) - 1)).f0 a b f).1 (upd (rd_T52 xs i0).f0 (rd_T52 xs ((i : Int) - 1)).f0 a b f).2.1 (upd (rd_T52 xs i0).f0 (rd_T52 xs ((i : Int) - 1)).f0 a b f).2.2 ((i + 1 : Nat) : Int)) r →
        Ev (fun k => spec_LongestAlarm.j2 k xs s t a b f (i0 : Int) (i : Int)) r := by
      intro r hr
      refine Ev.step (fun k => spec_LongestAlarm.j2.eq_2 ..) (Ev.neg q1 (Ev.pos q2 (Ev.pos q3 ?_)))
      rw [w1, w2, w3, w4]
      refine Ev.pos q4 (Ev.pos q5 ?_)
      unfold upd at hr
      cases f with
      | true =>
        by_cases q : (rd_T52 xs ((i : Int) - 1)).f0 - (rd_T52 xs i0).f0 ≤ b - a
        · rw [if_pos ⟨rfl, q⟩] at hr
          exact Ev.pos rfl (Ev.neg (Int.not_lt.2 q) hr)
        · rw [if_neg (fun w => q w.2)] at hr
          exact Ev.pos rfl (Ev.pos (Int.not_le.1 q) hr)
      | false =>
        rw [if_neg (by simp)] at hr
        exact Ev.neg (by simp) hr
    clear w1 w2 w3 w4
    rcases Nat.lt_or_ge i xs.length with hlt | hge
    · obtain ⟨⟨r, r1, r2⟩, _⟩ := ih (d - 1) (by omega) (i + 1) (by omega) _ _ (upd (rd_T52 xs i0).f0 (rd_T52 xs ((i : Int) - 1)).f0 a b f).2.2 ub
      exact ⟨r, sp r r1, im_fine xs s t hl hv hs i hlt (hfi hlt) _ _ _ _ r (r2 (-1) (by omega))⟩
    · refine ⟨_, sp _ (Ev.step (fun k => spec_LongestAlarm.l0.eq_2 ..) (Ev.neg (by omega) (Ev.now _))), Ev.step (fun k => impl_LongestAlarm.l0.eq_2 ..) (Ev.neg (by omega) (Ev.now _))⟩
  refine ⟨?_, ?_⟩
  · rcases Nat.lt_or_ge i xs.length with hlt | hge
    · have w2 : wrap64 ((i : Int) + 1) = ((i + 1 : Nat) : Int) := by rw [w64 (by omega) (by omega)]; rfl
      by_cases hf : fine (rd_T52 xs i) s t
      · obtain ⟨⟨r, r1, r2⟩, _⟩ := ih (d - 1) (by omega) (i + 1) (by omega) a b f hab
        refine ⟨r, Ev.step (fun k => spec_LongestAlarm.l0.eq_2 ..) (Ev.pos (by omega) (Ev.step (fun k => spec_LongestAlarm.l1.eq_2 ..) (Ev.pos (by omega) (Ev.pos (by omega) (Ev.const (fine_eq _ s t hs ht) (Ev.pos (by simpa using hf) (Ev.step (fun k => spec_LongestAlarm.j2.eq_2 ..) (Ev.pos rfl ?_)))))))), fun c hc => im_fine xs s t hl hv hs i hlt hf a b c f r (r2 (-1) (by omega))⟩
        rw [w2]
        exact r1
      · obtain ⟨_, h2⟩ := ih (d - 1) (by omega) (i + 1) (by omega) a b f hab
        obtain ⟨r, r1, r2⟩ := h2 i (by omega)
        rw [show (((i + 1 : Nat) : Int) - 1) = (i : Int) by omega] at r2
        refine ⟨r, Ev.step (fun k => spec_LongestAlarm.l0.eq_2 ..) (Ev.pos (by omega) (Ev.step (fun k => spec_LongestAlarm.l1.eq_2 ..) (Ev.pos (by omega) (Ev.pos (by omega) (Ev.const (fine_eq _ s t hs ht) (Ev.neg (by simpa using hf) ?_)))))), fun c hc => im_first xs s t hl hv hs i hlt hf a b c hc hab f r r2⟩
        rw [w2]
        exact r1
    · refine ⟨(a, b, f), Ev.step (fun k => spec_LongestAlarm.l0.eq_2 ..) (Ev.neg (by omega) (Ev.now _)), fun c _ => Ev.step (fun k => impl_LongestAlarm.l0.eq_2 ..) (Ev.neg (by omega) (Ev.now _))⟩
  · intro i0 h0
    rcases Nat.lt_or_ge i xs.length with hlt | hge
    · have w2 : wrap64 ((i : Int) + 1) = ((i + 1 : Nat) : Int) := by rw [w64 (by omega) (by omega)]; rfl
      by_cases hf : fine (rd_T52 xs i) s t
      · obtain ⟨r, r1, r2⟩ := close i0 h0 (fun _ => hf)
        exact ⟨r, Ev.step (fun k => spec_LongestAlarm.l1.eq_2 ..) (Ev.pos (by omega) (Ev.pos (by omega) (Ev.const (fine_eq _ s t hs ht) (Ev.pos (by simpa using hf) r1)))), r2⟩
      · obtain ⟨_, h2⟩ := ih (d - 1) (by omega) (i + 1) (by omega) a b f hab
        obtain ⟨r, r1, r2⟩ := h2 i0 (by omega)
        have e1 : ((i : Int) - 1) = ((i - 1 : Nat) : Int) := by omega
        have b0 := (hv i0 (by omega)).1
        have b1 := (hv (i - 1) (by omega)).1
        have b2 := rise_at xs hv i0 (i - 1) (by omega) (by omega)
        have b3 := rise_at xs hv (i - 1) i (by omega) (by omega)
        rw [← e1] at b1 b2 b3
        rw [show (((i + 1 : Nat) : Int) - 1) = (i : Int) by omega] at r2
        refine ⟨r, Ev.step (fun k => spec_LongestAlarm.l1.eq_2 ..) (Ev.pos (by omega) (Ev.pos (by omega) (Ev.const (fine_eq _ s t hs ht) (Ev.neg (by simpa using hf) ?_)))), ?_⟩
        · rw [w2]
          exact r1
        · refine im_next xs s t hl hv hs i hlt hf _ _ _ b0 (upd_bounds _ _ a b f ⟨b0.1, b2, b1.2⟩ hab) _ r ?_
          rw [upd_upd _ _ _ a b f b3]
          exact r2
    · obtain ⟨r, r1, r2⟩ := close i0 h0 (fun h => by omega)
      exact ⟨r, Ev.step (fun k => spec_LongestAlarm.l1.eq_2 ..) (Ev.neg (by omega) r1), r2⟩
theorem alarm (xs : List S52) (hl : xs.length ≤ 1048576) (s t : Int) : ∃ r, Ev (fun k => spec_LongestAlarm.f k xs s t) r ∧ Ev (fun k => impl_LongestAlarm.f k xs s t) r := by
  obtain ⟨b, h1, h2, h3⟩ := setting xs hl s t
  unfold spec_LongestAlarm.f impl_LongestAlarm.f
  cases b with
  | false => exact ⟨(0, 0, false), Ev.bind h1 (Ev.neg (by simp) (Ev.now _)), Ev.bind h2 (Ev.neg (by simp) (Ev.now _))⟩
  | true =>
    obtain ⟨⟨l20, hv⟩, hs, ht⟩ := h3.1 rfl
    obtain ⟨⟨r, r1, r2⟩, _⟩ := alarms xs s t l20 hv hs ht xs.length 0 (by omega) 0 0 false (by omega)
    exact ⟨r, Ev.bind h1 (Ev.pos rfl r1), Ev.bind h2 (Ev.pos rfl (r2 (-1) (by omega)))⟩

theorem FnExactLongestAlarm : ∀ (l0 : (List S49)) (a1 : Int) (a2 : Int), (l0.length ≤ 9223372036854775807 ∧ ∀ x ∈ l0, inv49 x) → (Lit.int .i64 a1).wf = true → (Lit.int .i64 a2).wf = true → ∃ k, laws_FnExactLongestAlarm.f k l0 a1 a2 = some true := by
  intro l0 a1 a2 ⟨hl, _⟩ _ _
  refine Ev.rounds ?_
  unfold laws_FnExactLongestAlarm.f
  refine Ev.const (szReadingS l0 1048576 (by omega) (by omega) hl) ?_
  by_cases hz : (1048576 : Int) < l0.length
  · exact Ev.pos (by rw [if_pos hz]; omega) (Ev.now _)
  · refine Ev.neg (by rw [if_neg hz]; omega) ?_
    have hn : l0.length ≤ 1048576 := by omega
    obtain ⟨r, h1, h2⟩ := alarm (l0.map convReading) (by simpa using hn) a1 a2
    refine Ev.bind (toReadingS l0 hn) (Ev.bind h1 (Ev.bind (toReadingS l0 hn) (Ev.bind h2 ?_)))
    refine Ev.pos rfl (Ev.pos rfl ?_)
    refine Ev.step (fun k => laws_FnExactLongestAlarm.j0.eq_2 ..) (Ev.neg (by simp) ?_)
    exact Ev.bind (toReadingS l0 hn) (Ev.bind (eqReadingS _ (by simp; omega)) (Ev.pos rfl (Ev.now _)))
end Go.Proofs.Ytjfookckobpheaa.Pure
