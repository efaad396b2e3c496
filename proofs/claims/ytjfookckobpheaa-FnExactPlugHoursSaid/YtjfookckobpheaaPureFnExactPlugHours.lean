/- The program's PlugHours returns what the reference's returns, for all arguments; the arguments read as they did. No condition. -/
import Derived.Test.YtjfookckobpheaaInvFnExactPlugHours
import Derived.Test.YtjfookckobpheaaWHelp
namespace Go.Proofs.Ytjfookckobpheaa.Pure
open Go.RowKit Go.Proofs.YtjfookckobpheaaW.PrintWords Go.Proofs.YtjfookckobpheaaW.PrintLast Go.Proofs.YtjfookckobpheaaW.PrintMore Go.Proofs.YtjfookckobpheaaW.Help Go.Proofs.Ytjfookckobpheaa.PFnExactPlugHours
set_option linter.unusedVariables false

theorem szReadingS (l : List S49) (a : Int) (h0 : 0 ≤ a) (h1 : a ≤ 1048576) (hl : l.length ≤ 9223372036854775807) :
    laws_szReadingS.f l a = some (if a < l.length then -1 else a - l.length) := by
  unfold laws_szReadingS.f
  rw [w64 (by omega) (by omega)]
  by_cases h : a < l.length
  · rw [if_pos (by omega), if_pos h]
  · rw [if_neg (by omega), if_neg h]

def convReading (x : S49) : S52 := ⟨x.f0, x.f1, x.f2⟩

theorem toReadingS (l : List S49) (hl : l.length ≤ 1048576) : Ev (fun k => laws_toReadingS.f k l) (l.map convReading) := by
  unfold laws_toReadingS.f
  refine Ev.pos (by omega) (Ev.pos (by omega) ?_)
  simp only [Int.toNat_natCast]
  refine fill_ev l convReading z52 (fun k ys i => laws_toReadingS.l0 k l ys i) ?_ ?_
  · intro i h ys hy r hr
    refine Ev.step (fun k => laws_toReadingS.l0.eq_2 ..) ?_
    refine Ev.pos (by omega) (Ev.pos (by omega) ?_)
    refine Ev.const (a := (l[i].f0, l[i].f1, l[i].f2)) (by simp [laws_toReading.f, rd_T49, h]) ?_
    refine Ev.pos (by omega) ?_
    rw [w64 (by omega) (by omega)]
    exact hr
  · intro ys hy
    refine Ev.step (fun k => laws_toReadingS.l0.eq_2 ..) ?_
    exact Ev.neg (by omega) (Ev.now _)

theorem eqReadingS (l : List S52) (hl : l.length ≤ 1048576) : Ev (fun k => laws_eqReadingS.f k l l) true := by
  unfold laws_eqReadingS.f
  refine Ev.pos rfl ?_
  refine down_ev l.length (fun k i => laws_eqReadingS.l0 k l l i) ?_ ?_
  · intro i h hr
    refine Ev.step (fun k => laws_eqReadingS.l0.eq_2 ..) ?_
    refine Ev.pos (by omega) (Ev.pos (by omega) (Ev.pos (by omega) ?_))
    refine Ev.const (a := true) (by simp [laws_eqReading.f]) ?_
    refine Ev.pos rfl ?_
    rw [w64 (by omega) (by omega)]
    exact hr
  · refine Ev.step (fun k => laws_eqReadingS.l0.eq_2 ..) ?_
    exact Ev.neg (by omega) (Ev.now _)

theorem szReadingSS (l : List (List S49)) (hl : l.length ≤ 9223372036854775807) (hx : ∀ x ∈ l, x.length ≤ 9223372036854775807) : ∃ r : Int, Ev (fun k => laws_szReadingSS.f k l 1048576) r ∧ (0 ≤ r → l.length ≤ 1048576 ∧ ∀ x ∈ l, x.length ≤ 1048576) := by
  unfold laws_szReadingSS.f
  rw [w64 (by omega) (by omega)]
  by_cases c : (1048576 : Int) < l.length
  · exact ⟨-1, Ev.pos (by omega) (Ev.now _), fun h => by omega⟩
  · have main : ∀ d i : Nat, i + d = l.length → ∀ a : Int, 0 ≤ a → a ≤ 1048576 → ∃ r : Int, Ev (fun k => laws_szReadingSS.l0 k l a i) r ∧ (0 ≤ r → ∀ j : Nat, i ≤ j → (h : j < l.length) → l[j].length ≤ 1048576) := by
      intro d
      induction d with
      | zero =>
        intro i hi a h0 h1
        exact ⟨a, Ev.step (fun k => laws_szReadingSS.l0.eq_2 ..) (Ev.neg (by omega) (Ev.now _)), fun _ j hj h => by omega⟩
      | succ d ih =>
        intro i hi a h0 h1
        have e : rd_L3 l (i : Int) = l[i]'(by omega) := by
          unfold rd_L3
          rw [Int.toNat_natCast]
          exact getD_of (List.getElem?_eq_getElem (by omega))
        have hxi := hx (l[i]'(by omega)) (List.getElem_mem _)
        have w1 : wrap64 ((i : Int) + 1) = ((i + 1 : Nat) : Int) := by rw [w64 (by omega) (by omega)]; rfl
        have sz := szReadingS (l[i]'(by omega)) a h0 h1 hxi
        by_cases q : a < (l[i]'(by omega)).length
        · rw [if_pos q] at sz
          refine ⟨-1, Ev.step (fun k => laws_szReadingSS.l0.eq_2 ..) (Ev.pos (by omega) (Ev.pos (by omega) ?_)), fun h => by omega⟩
          rw [e]
          exact Ev.const sz (Ev.pos (by omega) (Ev.now _))
        · rw [if_neg q] at sz
          obtain ⟨r, r1, r2⟩ := ih (i + 1) (by omega) (a - (l[i]'(by omega)).length) (by omega) (by omega)
          refine ⟨r, Ev.step (fun k => laws_szReadingSS.l0.eq_2 ..) (Ev.pos (by omega) (Ev.pos (by omega) ?_)), fun h j hj hlt => ?_⟩
          · rw [e, w1]
            exact Ev.const sz (Ev.neg (by omega) r1)
          · rcases Nat.lt_or_ge i j with h3 | h3
            · exact r2 h j h3 hlt
            · obtain rfl : j = i := by omega
              omega
    obtain ⟨r, r1, r2⟩ := main l.length 0 (by omega) (1048576 - l.length) (by omega) (by omega)
    refine ⟨r, Ev.neg (by omega) r1, fun h => ⟨by omega, fun x hx' => ?_⟩⟩
    obtain ⟨j, hj, rfl⟩ := List.getElem_of_mem hx'
    exact r2 h j (by omega) hj

theorem toReadingSS (l : List (List S49)) (hl : l.length ≤ 1048576) (hx : ∀ x ∈ l, x.length ≤ 1048576) : Ev (fun k => laws_toReadingSS.f k l) (l.map (fun x => x.map convReading)) := by
  unfold laws_toReadingSS.f
  refine Ev.pos (by omega) (Ev.pos (by omega) ?_)
  simp only [Int.toNat_natCast]
  refine fill_ev l (fun x => x.map convReading) [] (fun k ys i => laws_toReadingSS.l0 k l ys i) ?_ ?_
  · intro i h ys hy r hr
    have e : rd_L3 l (i : Int) = l[i] := by
      unfold rd_L3
      rw [Int.toNat_natCast]
      exact getD_of (List.getElem?_eq_getElem h)
    refine Ev.step (fun k => laws_toReadingSS.l0.eq_2 ..) (Ev.pos (by omega) (Ev.pos (by omega) ?_))
    rw [e]
    refine Ev.bind (toReadingS l[i] (hx _ (List.getElem_mem _))) (Ev.pos (by omega) ?_)
    rw [w64 (by omega) (by omega)]
    exact hr
  · intro ys hy
    exact Ev.step (fun k => laws_toReadingSS.l0.eq_2 ..) (Ev.neg (by omega) (Ev.now _))

theorem eqReadingSS (l : List (List S52)) (hl : l.length ≤ 1048576) (hx : ∀ x ∈ l, x.length ≤ 1048576) : Ev (fun k => laws_eqReadingSS.f k l l) true := by
  unfold laws_eqReadingSS.f
  refine Ev.pos rfl ?_
  refine down_ev l.length (fun k i => laws_eqReadingSS.l0 k l l i) ?_ ?_
  · intro i h hr
    have e : rd_L5 l (i : Int) = l[i] := by
      unfold rd_L5
      rw [Int.toNat_natCast]
      exact getD_of (List.getElem?_eq_getElem h)
    refine Ev.step (fun k => laws_eqReadingSS.l0.eq_2 ..) (Ev.pos (by omega) (Ev.pos (by omega) (Ev.pos (by omega) ?_)))
    rw [e]
    refine Ev.bind (eqReadingS _ (hx _ (List.getElem_mem _))) (Ev.pos rfl ?_)
    rw [w64 (by omega) (by omega)]
    exact hr
  · exact Ev.step (fun k => laws_eqReadingSS.l0.eq_2 ..) (Ev.neg (by omega) (Ev.now _))

theorem l1In_eq (a b c : Int) : spec_l1In.f a b c = some (decide (b ≤ a ∧ a ≤ c)) := by
  unfold spec_l1In.f
  by_cases h : b ≤ a <;> simp [h]

theorem within_eq (a b c : Int) : impl_within.f a b c = some (decide (b ≤ a ∧ a ≤ c)) := by
  unfold impl_within.f
  by_cases h : b ≤ a <;> simp [h]

/-- Reading i of a log is as it should be. -/
def vR (xs : List S52) (i : Nat) : Prop := (0 ≤ (rd_T52 xs i).f0 ∧ (rd_T52 xs i).f0 ≤ 240) ∧ (-400 ≤ (rd_T52 xs i).f1 ∧ (rd_T52 xs i).f1 ≤ 400) ∧ (0 < i → (rd_T52 xs ((i : Int) - 1)).f0 < (rd_T52 xs i).f0)
/-- A valid log. -/
def Log (xs : List S52) : Prop := xs.length ≤ 20 ∧ ∀ i, i < xs.length → vR xs i

theorem readings_at (xs : List S52) (hl : xs.length ≤ 1048576) : ∀ d i : Nat, i + d = xs.length → ∃ b : Bool, Ev (fun k => spec_l21Good.l0 k xs i) b ∧ Ev (fun k => impl_IsValidReadings.l0 k xs xs xs.length i) b ∧
    (b = true ↔ xs.length ≤ 20 ∧ ∀ j, i ≤ j → j < xs.length → vR xs j) := by
  intro d
  induction d with
  | zero =>
    intro i hi
    refine ⟨decide ((xs.length : Int) ≤ 20), Ev.step (fun k => spec_l21Good.l0.eq_2 ..) (Ev.neg (by omega) (Ev.now _)), Ev.step (fun k => impl_IsValidReadings.l0.eq_2 ..) (Ev.neg (by omega) (Ev.now _)), ?_⟩
    rw [decide_eq_true_iff]
    exact ⟨fun h => ⟨by omega, fun j h1 h2 => by omega⟩, fun h => by omega⟩
  | succ d ih =>
    intro i hi
    have w1 : wrap64 ((i : Int) + 1) = ((i + 1 : Nat) : Int) := by rw [w64 (by omega) (by omega)]; rfl
    obtain ⟨b, s1, s2, s3⟩ := ih (i + 1) (by omega)
    have sp : ∀ r, Ev _ r → Ev (fun k => spec_l21Good.l0 k xs i) r := fun r hr => Ev.step (fun k => spec_l21Good.l0.eq_2 ..) (Ev.pos (by omega) (Ev.pos (by omega) (Ev.const (l1In_eq _ _ _) hr)))
    have im : ∀ r, Ev _ r → Ev (fun k => impl_IsValidReadings.l0 k xs xs xs.length i) r := fun r hr => Ev.step (fun k => impl_IsValidReadings.l0.eq_2 ..) (Ev.pos (by omega) (Ev.pos (by omega) (Ev.pos (by omega) (Ev.const (within_eq _ _ _) hr))))
    rw [w1] at sp im
    have no : ∀ h : ¬ vR xs i, ((false : Bool) = true ↔ xs.length ≤ 20 ∧ ∀ j, i ≤ j → j < xs.length → vR xs j) := fun h => ⟨(fun q => by cases q), fun h' => absurd (h'.2 i (by omega) (by omega)) h⟩
    by_cases c1 : 0 ≤ (rd_T52 xs i).f0 ∧ (rd_T52 xs i).f0 ≤ 240
    · by_cases c2 : -400 ≤ (rd_T52 xs i).f1 ∧ (rd_T52 xs i).f1 ≤ 400
      · by_cases c3 : (i : Int) > 0
        · have w2 : wrap64 ((i : Int) - 1) = (i : Int) - 1 := w64 (by omega) (by omega)
          rw [w2] at sp im
          by_cases c4 : (rd_T52 xs i).f0 ≤ (rd_T52 xs ((i : Int) - 1)).f0
          · exact ⟨false, sp _ (Ev.pos (by simp [c1]) (Ev.const (l1In_eq _ _ _) (Ev.pos (by simp [c2]) (Ev.pos c3 (Ev.pos (by omega) (Ev.pos (by omega) (Ev.pos c4 (Ev.now _)))))))),
              im _ (Ev.pos (by simp [c1]) (Ev.const (within_eq _ _ _) (Ev.pos (by simp [c2]) (Ev.pos c3 (Ev.pos (by omega) (Ev.pos (by omega) (Ev.pos c4 (Ev.now _)))))))), no (fun h => by have := h.2.2 (by omega); omega)⟩
          · refine ⟨b, sp _ (Ev.pos (by simp [c1]) (Ev.const (l1In_eq _ _ _) (Ev.pos (by simp [c2]) (Ev.pos c3 (Ev.pos (by omega) (Ev.pos (by omega) (Ev.neg (by omega) s1))))))),
              im _ (Ev.pos (by simp [c1]) (Ev.const (within_eq _ _ _) (Ev.pos (by simp [c2]) (Ev.pos c3 (Ev.pos (by omega) (Ev.pos (by omega) (Ev.neg (by omega) s2))))))), ?_⟩
            rw [s3]
            refine ⟨fun h => ⟨h.1, fun j h1 h2 => ?_⟩, fun h => ⟨h.1, fun j h1 h2 => h.2 j (by omega) h2⟩⟩
            rcases Nat.lt_or_ge i j with hj | hj
            · exact h.2 j hj h2
            · obtain rfl : j = i := by omega
              exact ⟨c1, c2, fun _ => by omega⟩
        · refine ⟨b, sp _ (Ev.pos (by simp [c1]) (Ev.const (l1In_eq _ _ _) (Ev.pos (by simp [c2]) (Ev.neg c3 s1)))), im _ (Ev.pos (by simp [c1]) (Ev.const (within_eq _ _ _) (Ev.pos (by simp [c2]) (Ev.neg c3 s2)))), ?_⟩
          rw [s3]
          refine ⟨fun h => ⟨h.1, fun j h1 h2 => ?_⟩, fun h => ⟨h.1, fun j h1 h2 => h.2 j (by omega) h2⟩⟩
          rcases Nat.lt_or_ge i j with hj | hj
          · exact h.2 j hj h2
          · obtain rfl : j = i := by omega
            exact ⟨c1, c2, fun _ => by omega⟩
      · exact ⟨false, sp _ (Ev.pos (by simp [c1]) (Ev.const (l1In_eq _ _ _) (Ev.neg (by simp; omega) (Ev.now _)))), im _ (Ev.pos (by simp [c1]) (Ev.const (within_eq _ _ _) (Ev.neg (by simp; omega) (Ev.now _)))), no (fun h => c2 h.2.1)⟩
    · exact ⟨false, sp _ (Ev.neg (by simp; omega) (Ev.now _)), im _ (Ev.neg (by simp; omega) (Ev.now _)), no (fun h => c1 h.1)⟩

theorem readings (xs : List S52) (hl : xs.length ≤ 1048576) : ∃ b : Bool, Ev (fun k => spec_l21Good.f k xs) b ∧ Ev (fun k => impl_IsValidReadings.f k xs) b ∧ (b = true ↔ Log xs) := by
  obtain ⟨b, h1, h2, h3⟩ := readings_at xs hl xs.length 0 (by omega)
  exact ⟨b, h1, h2, h3.trans ⟨fun h => ⟨h.1, fun i hi => h.2 i (by omega) hi⟩, fun h => ⟨h.1, fun j _ hj => h.2 j hj⟩⟩⟩


theorem rise_at (xs : List S52) (hv : ∀ i, i < xs.length → vR xs i) (i j : Nat) (hij : i ≤ j) (hj : j < xs.length) : (rd_T52 xs i).f0 ≤ (rd_T52 xs j).f0 := by
  induction j with
  | zero =>
    obtain rfl : i = 0 := by omega
    omega
  | succ j ih =>
    rcases Nat.lt_or_ge j i with h | h
    · obtain rfl : i = j + 1 := by omega
      omega
    · have := ih h (by omega)
      have h3 := (hv (j + 1) hj).2.2 (by omega)
      rw [show (((j + 1 : Nat) : Int) - 1) = (j : Int) by omega] at h3
      omega


theorem split_hours (xs : List S52) (hv : ∀ i, i < xs.length → vR xs i) (hour : Int) : ∀ n : Nat, n ≤ xs.length → ∃ m : Nat, m ≤ n ∧ (∀ j : Nat, j < m → (rd_T52 xs j).f0 ≤ hour) ∧ (∀ j : Nat, m ≤ j → j < n → hour < (rd_T52 xs j).f0) := by
  intro n
  induction n with
  | zero => exact fun _ => ⟨0, Nat.le_refl _, fun j h => by omega, fun j _ h => by omega⟩
  | succ n ih =>
    intro hn
    obtain ⟨m, h1, h2, h3⟩ := ih (by omega)
    by_cases c : hour < (rd_T52 xs n).f0
    · refine ⟨m, by omega, h2, fun j hj hlt => ?_⟩
      rcases Nat.lt_or_ge j n with h | h
      · exact h3 j hj h
      · obtain rfl : j = n := by omega
        exact c
    · refine ⟨n + 1, by omega, fun j hj => ?_, fun j hj hlt => by omega⟩
      have := rise_at xs hv j n (by omega) (by omega)
      omega
theorem powered (xs : List S52) (hl : xs.length ≤ 20) (hv : ∀ i, i < xs.length → vR xs i) (hour : Int) : ∃ b : Bool, Ev (fun k => spec_l21Powered.f k xs hour) b ∧ Ev (fun k => impl_hasPower.f k xs hour) b := by
  obtain ⟨m, m1, m2, m3⟩ := split_hours xs hv hour xs.length (Nat.le_refl _)
  -- the answer: of the last reading by then
  obtain ⟨res, hres⟩ : ∃ res : Bool, res = (if m = 0 then false else (rd_T52 xs ((m : Int) - 1)).f2 && (decide (m < xs.length) || ((rd_T52 xs ((m : Int) - 1)).f0 == hour))) := ⟨_, rfl⟩
  refine ⟨res, ?_, ?_⟩
  · unfold spec_l21Powered.f
    rw [w64 (by omega) (by omega)]
    have main : ∀ d : Nat, m + d ≤ xs.length → Ev (fun k => spec_l21Powered.l0 k xs hour (((m + d : Nat) : Int) - 1)) res := by
      intro d
      induction d with
      | zero =>
        intro _
        by_cases c : m = 0
        · rw [if_pos c] at hres
          exact Ev.step (fun k => spec_l21Powered.l0.eq_2 ..) (Ev.neg (by omega) (Ev.eq (Ev.now _) hres.symm))
        · rw [if_neg c] at hres
          have h4 := m2 (m - 1) (by omega)
          rw [show ((m - 1 : Nat) : Int) = (m : Int) - 1 by omega] at h4
          refine Ev.step (fun k => spec_l21Powered.l0.eq_2 ..) (Ev.pos (by omega) (Ev.pos (by omega) (Ev.pos (by omega) (Ev.pos h4 ?_))))
          have w1 : wrap64 (((m + 0 : Nat) : Int) - 1 + 1) = (m : Int) := by rw [w64 (by omega) (by omega)]; omega
          rw [w1]
          rw [hres]
          simp only [Nat.add_zero]
          cases hp : (rd_T52 xs ((m : Int) - 1)).f2 with
          | false => exact Ev.neg (by simp) (Ev.now _)
          | true =>
            refine Ev.pos rfl ?_
            by_cases c2 : m < xs.length
            · exact Ev.pos (by omega) (Ev.eq (Ev.now _) (by simp [c2]))
            · exact Ev.neg (by omega) (Ev.eq (Ev.now _) (by simp [c2]))
      | succ d ih =>
        intro hd
        have h5 := m3 (m + d) (by omega) (by omega)
        have e1 : (((m + (d + 1) : Nat) : Int) - 1) = ((m + d : Nat) : Int) := by omega
        have w1 : wrap64 (((m + d : Nat) : Int) - 1) = ((m + d : Nat) : Int) - 1 := w64 (by omega) (by omega)
        rw [e1]
        refine Ev.step (fun k => spec_l21Powered.l0.eq_2 ..) (Ev.pos (by omega) (Ev.pos (by omega) (Ev.pos (by omega) (Ev.neg (by omega) ?_))))
        rw [w1]
        exact ih (by omega)
    have := main (xs.length - m) (by omega)
    rw [show ((m + (xs.length - m) : Nat) : Int) = (xs.length : Int) by omega] at this
    exact this
  · unfold impl_hasPower.f
    have main : ∀ d i : Nat, i + d = xs.length → Ev (fun k => impl_hasPower.l0 k xs hour xs xs.length i) (if i < m then res else false) := by
      intro d
      induction d with
      | zero =>
        intro i hi
        rw [if_neg (by omega)]
        exact Ev.step (fun k => impl_hasPower.l0.eq_2 ..) (Ev.neg (by omega) (Ev.now _))
      | succ d ih =>
        intro i hi
        have w1 : wrap64 ((i : Int) + 1) = ((i + 1 : Nat) : Int) := by rw [w64 (by omega) (by omega)]; rfl
        have next := ih (i + 1) (by omega)
        by_cases c : i < m
        · have h4 := m2 i c
          rw [if_pos c]
          refine Ev.step (fun k => impl_hasPower.l0.eq_2 ..) (Ev.pos (by omega) (Ev.pos (by omega) (Ev.pos (by omega) (Ev.pos h4 ?_))))
          rw [w1]
          by_cases c2 : i + 1 < m
          · rw [if_pos c2] at next
            have h5 := m2 (i + 1) c2
            exact Ev.pos (by omega) (Ev.pos (by omega) (Ev.neg (by omega) (Ev.neg (by omega) next)))
          · rw [if_neg c2] at next
            obtain rfl : m = i + 1 := by omega
            rw [if_neg (by omega)] at hres
            rw [show (((i + 1 : Nat) : Int) - 1) = (i : Int) by omega] at hres
            by_cases c3 : i + 1 < xs.length
            · have h6 := m3 (i + 1) (by omega) c3
              exact Ev.pos (by omega) (Ev.pos (by omega) (Ev.pos h6 (Ev.eq (Ev.now _) (by rw [hres]; simp [c3]))))
            · refine Ev.neg (by omega) (Ev.pos (by omega) ?_)
              by_cases c4 : hour = (rd_T52 xs i).f0
              · exact Ev.pos c4 (Ev.eq (Ev.now _) (by rw [hres]; simp [c4]))
              · refine Ev.neg c4 (Ev.eq next ?_)
                rw [hres]
                have c5 : ((rd_T52 xs i).f0 == hour) = false := by simp; omega
                simp [c3, c5]
        · have h5 := m3 i (by omega) (by omega)
          rw [if_neg c]
          rw [if_neg (by omega)] at next
          refine Ev.step (fun k => impl_hasPower.l0.eq_2 ..) (Ev.pos (by omega) (Ev.pos (by omega) (Ev.pos (by omega) (Ev.neg (by omega) ?_))))
          rw [w1]
          exact next
    have := main xs.length 0 (by omega)
    by_cases c : 0 < m
    · rw [if_pos c] at this
      exact this
    · rw [if_neg c] at this
      rw [if_pos (by omega)] at hres
      rw [hres]
      exact this

theorem logs_at (xs : List (List S52)) (hl : xs.length ≤ 10) (hx : ∀ x ∈ xs, x.length ≤ 1048576) (hour : Int) : ∀ d i : Nat, i + d = xs.length →
    (∃ t : Int, (t = -1 ∨ 0 ≤ t) ∧ Ev (fun k => slices_IndexFunc_impl_Reading.l0 k xs xs.length i) t ∧ (∀ a : Int, 0 ≤ a → a ≤ (i : Int) →
      (0 ≤ t → Ev (fun k => spec_PlugHours.l0 k xs hour a i) (0, false)) ∧ (t = -1 → ∃ r : Int, 0 ≤ r ∧ r ≤ xs.length ∧ Ev (fun k => spec_PlugHours.l0 k xs hour a i) (r, true) ∧ Ev (fun k => impl_PlugHours.l0 k hour a xs xs.length i) (r, true)))) := by
  intro d
  induction d with
  | zero =>
    intro i hi
    exact ⟨-1, .inl rfl, Ev.step (fun k => slices_IndexFunc_impl_Reading.l0.eq_2 ..) (Ev.neg (by omega) (Ev.now _)), fun a h0 h1 => ⟨fun h => by omega, fun _ => ⟨a, h0, by omega, Ev.step (fun k => spec_PlugHours.l0.eq_2 ..) (Ev.neg (by omega) (Ev.now _)), Ev.step (fun k => impl_PlugHours.l0.eq_2 ..) (Ev.neg (by omega) (Ev.now _))⟩⟩⟩
  | succ d ih =>
    intro i hi
    have w1 : wrap64 ((i : Int) + 1) = ((i + 1 : Nat) : Int) := by rw [w64 (by omega) (by omega)]; rfl
    have e : rd_L5 xs (i : Int) = xs[i]'(by omega) := by
      unfold rd_L5
      rw [Int.toNat_natCast]
      exact getD_of (List.getElem?_eq_getElem (by omega))
    have hxi := hx (xs[i]'(by omega)) (List.getElem_mem _)
    obtain ⟨b, h1, h2, h3⟩ := readings (xs[i]'(by omega)) hxi
    cases b with
    | false =>
      refine ⟨i, .inr (by omega), Ev.step (fun k => slices_IndexFunc_impl_Reading.l0.eq_2 ..) (Ev.pos (by omega) (Ev.pos (by omega) (Ev.pos (by omega) ?_))), fun a _ _ => ⟨fun _ => Ev.step (fun k => spec_PlugHours.l0.eq_2 ..) (Ev.pos (by omega) (Ev.pos (by omega) ?_)), fun h => by omega⟩⟩
      · rw [e]
        unfold impl_PlugHours_1.f
        exact Ev.bind (Ev.bind h2 (Ev.now _)) (Ev.pos rfl (Ev.now _))
      · rw [e]
        exact Ev.bind h1 (Ev.neg (by simp) (Ev.now _))
    | true =>
      obtain ⟨l20, hv⟩ := h3.1 rfl
      obtain ⟨p, p1, p2⟩ := powered _ l20 hv hour
      obtain ⟨t, t0, t1, t2⟩ := ih (i + 1) (by omega)
      refine ⟨t, t0, Ev.step (fun k => slices_IndexFunc_impl_Reading.l0.eq_2 ..) (Ev.pos (by omega) (Ev.pos (by omega) (Ev.pos (by omega) ?_))), fun a h0 ha => ?_⟩
      · rw [e, w1]
        unfold impl_PlugHours_1.f
        exact Ev.bind (Ev.bind h2 (Ev.now _)) (Ev.neg (by simp) t1)
      · have sp : ∀ r, Ev (fun k => spec_PlugHours.l0 k xs hour (if p = true then a + 1 else a) ((i + 1 : Nat) : Int)) r → Ev (fun k => spec_PlugHours.l0 k xs hour a i) r := by
          intro r hr
          refine Ev.step (fun k => spec_PlugHours.l0.eq_2 ..) (Ev.pos (by omega) (Ev.pos (by omega) ?_))
          rw [e, w1, w64 (x := a + 1) (by omega) (by omega)]
          refine Ev.bind h1 (Ev.pos rfl (Ev.bind p1 ?_))
          cases p with
          | true => exact Ev.pos rfl hr
          | false => exact Ev.neg (by simp) hr
        have im : ∀ r, Ev (fun k => impl_PlugHours.l0 k hour (if p = true then a + 1 else a) xs xs.length ((i + 1 : Nat) : Int)) r → Ev (fun k => impl_PlugHours.l0 k hour a xs xs.length i) r := by
          intro r hr
          refine Ev.step (fun k => impl_PlugHours.l0.eq_2 ..) (Ev.pos (by omega) (Ev.pos (by omega) (Ev.pos (by omega) ?_)))
          rw [e, w1, w64 (x := a + 1) (by omega) (by omega)]
          refine Ev.bind p2 ?_
          cases p with
          | true => exact Ev.pos rfl hr
          | false => exact Ev.neg (by simp) hr
        obtain ⟨g1, g2⟩ := t2 (if p = true then a + 1 else a) (by split <;> omega) (by split <;> omega)
        exact ⟨fun h => sp _ (g1 h), fun h => by
          obtain ⟨r, r0, r1, r2, r3⟩ := g2 h
          exact ⟨r, r0, r1, sp _ r2, im _ r3⟩⟩

theorem plugHours (xs : List (List S52)) (hx : ∀ x ∈ xs, x.length ≤ 1048576) (hour : Int) : ∃ r : Int × Bool, Ev (fun k => spec_PlugHours.f k xs hour) r ∧ Ev (fun k => impl_PlugHours.f k xs hour) r ∧ 0 ≤ r.1 ∧ r.1 ≤ xs.length := by
  unfold spec_PlugHours.f impl_PlugHours.f slices_ContainsFunc_impl_Reading.f slices_IndexFunc_impl_Reading.f
  have sb : Ev (fun k => spec_PlugHours.j0 k xs hour true) (0, false) := Ev.step (fun k => spec_PlugHours.j0.eq_2 ..) (Ev.pos rfl (Ev.now _))
  have ib : Ev (fun k => impl_PlugHours.j0 k xs hour true) (0, false) := Ev.step (fun k => impl_PlugHours.j0.eq_2 ..) (Ev.pos rfl (Ev.now _))
  by_cases c : (xs.length : Int) > 10
  · exact ⟨(0, false), Ev.pos c sb, Ev.pos c ib, by simp, by simp⟩
  · by_cases c1 : 0 ≤ hour ∧ hour ≤ 240
    · obtain ⟨t, t0, t1, t2⟩ := logs_at xs (by omega) hx hour xs.length 0 (by omega)
      obtain ⟨g1, g2⟩ := t2 0 (by omega) (by omega)
      have sp : ∀ r, Ev (fun k => spec_PlugHours.l0 k xs hour 0 0) r → Ev (fun k => if (xs.length : Int) > 10 then spec_PlugHours.j0 k xs hour true else (spec_l1In.f hour 0 240).bind fun t112 => spec_PlugHours.j0 k xs hour (!t112)) r :=
        fun r hr => Ev.neg c (Ev.const (l1In_eq _ _ _) (Ev.step (fun k => spec_PlugHours.j0.eq_2 ..) (Ev.neg (by simp [c1]) hr)))
      rcases t0 with rfl | t0
      · obtain ⟨r, r0, r1, r2, r3⟩ := g2 rfl
        exact ⟨(r, true), sp _ r2, Ev.neg c (Ev.const (within_eq _ _ _) (Ev.pos (by simp [c1]) (Ev.bind (Ev.bind t1 (Ev.now _)) (Ev.step (fun k => impl_PlugHours.j0.eq_2 ..) (Ev.neg (by simp) r3))))), r0, r1⟩
      · exact ⟨(0, false), sp _ (g1 t0), Ev.neg c (Ev.const (within_eq _ _ _) (Ev.pos (by simp [c1]) (Ev.bind (Ev.bind t1 (Ev.now _)) (Ev.step (fun k => impl_PlugHours.j0.eq_2 ..) (Ev.pos (by simp; omega) (Ev.now _)))))), by simp, by simp⟩
    · exact ⟨(0, false), Ev.neg c (Ev.const (l1In_eq _ _ _) (Ev.step (fun k => spec_PlugHours.j0.eq_2 ..) (Ev.pos (by simp; omega) (Ev.now _)))), Ev.neg c (Ev.const (within_eq _ _ _) (Ev.neg (by simp; omega) ib)), by simp, by simp⟩

theorem FnExactPlugHours : ∀ (l0 : (List (List S49))) (a1 : Int), (l0.length ≤ 9223372036854775807 ∧ ∀ x ∈ l0, (x.length ≤ 9223372036854775807 ∧ ∀ y ∈ x, inv49 y)) → (Lit.int .i64 a1).wf = true → ∃ k, laws_FnExactPlugHours.f k l0 a1 = some true := by
  intro l0 a1 ⟨hl, hx⟩ _
  refine Ev.rounds ?_
  unfold laws_FnExactPlugHours.f
  obtain ⟨z, z1, z2⟩ := szReadingSS l0 hl (fun x h => (hx x h).1)
  refine Ev.bind z1 ?_
  by_cases hz : z < 0
  · exact Ev.pos hz (Ev.now _)
  · refine Ev.neg hz ?_
    obtain ⟨hn, hn2⟩ := z2 (by omega)
    have hm : ∀ x ∈ l0.map (fun x => x.map convReading), x.length ≤ 1048576 := by
      intro x h
      obtain ⟨y, hy, rfl⟩ := List.mem_map.1 h
      have := hn2 y hy
      simpa using this
    obtain ⟨r, h1, h2, _⟩ := plugHours (l0.map (fun x => x.map convReading)) hm a1
    have tv := toReadingSS l0 hn hn2
    refine Ev.bind tv (Ev.bind h1 (Ev.bind tv (Ev.bind h2 (Ev.pos rfl ?_))))
    refine Ev.step (fun k => laws_FnExactPlugHours.j0.eq_2 ..) (Ev.neg (by simp) ?_)
    exact Ev.bind tv (Ev.bind (eqReadingSS _ (by simpa using hn) hm) (Ev.pos rfl (Ev.now _)))
end Go.Proofs.Ytjfookckobpheaa.Pure
