/- The program's IsValidReadings returns what the reference's returns, for all arguments; the argument reads as it did. No condition. -/
import Derived.Test.YtjfookckobpheaaInvFnExactIsValidReadings
import Derived.Test.YtjfookckobpheaaWHelp
namespace Go.Proofs.Ytjfookckobpheaa.Pure
open Go.RowKit Go.Proofs.YtjfookckobpheaaW.PrintWords Go.Proofs.YtjfookckobpheaaW.PrintLast Go.Proofs.YtjfookckobpheaaW.PrintMore Go.Proofs.YtjfookckobpheaaW.Help Go.Proofs.Ytjfookckobpheaa.PFnExactIsValidReadings
set_option linter.unusedVariables false

theorem szReadingS (l : List S49) (a : Int) (h0 : 0 ≤ a) (h1 : a ≤ 1048576) (hl : l.length ≤ 9223372036854775807) :
    laws_szReadingS.f l a = some (if a < l.length then -1 else a - l.length) := by
  unfold laws_szReadingS.f
  rw [w64 (by omega) (by omega)]
  by_cases h : a < l.length
  · rw [if_pos (by omega), if_pos h]
  · rw [if_neg (by omega), if_neg h]

def convReading (x : S49) : S52 := ⟨x.f0, x.f1, x.f2⟩

theorem toReadingS (l : List S49) (hl : l.length ≤ 1048576) : Ev (fun k => laws_toReadingS.f k l) (l.map convReading) := by
  unfold laws_toReadingS.f
  refine Ev.pos (by omega) (Ev.pos (by omega) ?_)
  simp only [Int.toNat_natCast]
  refine fill_ev l convReading z52 (fun k ys i => laws_toReadingS.l0 k l ys i) ?_ ?_
  · intro i h ys hy r hr
    refine Ev.step (fun k => laws_toReadingS.l0.eq_2 ..) ?_
    refine Ev.pos (by omega) (Ev.pos (by omega) ?_)
    refine Ev.const (a := (l[i].f0, l[i].f1, l[i].f2)) (by simp [laws_toReading.f, rd_T49, h]) ?_
    refine Ev.pos (by omega) ?_
    rw [w64 (by omega) (by omega)]
    exact hr
  · intro ys hy
    refine Ev.step (fun k => laws_toReadingS.l0.eq_2 ..) ?_
    exact Ev.neg (by omega) (Ev.now _)

theorem eqReadingS (l : List S52) (hl : l.length ≤ 1048576) : Ev (fun k => laws_eqReadingS.f k l l) true := by
  unfold laws_eqReadingS.f
  refine Ev.pos rfl ?_
  refine down_ev l.length (fun k i => laws_eqReadingS.l0 k l l i) ?_ ?_
  · intro i h hr
    refine Ev.step (fun k => laws_eqReadingS.l0.eq_2 ..) ?_
    refine Ev.pos (by omega) (Ev.pos (by omega) (Ev.pos (by omega) ?_))
    refine Ev.const (a := true) (by simp [laws_eqReading.f]) ?_
    refine Ev.pos rfl ?_
    rw [w64 (by omega) (by omega)]
    exact hr
  · refine Ev.step (fun k => laws_eqReadingS.l0.eq_2 ..) ?_
    exact Ev.neg (by omega) (Ev.now _)

theorem l1In_eq (a b c : Int) : spec_l1In.f a b c = some (decide (b ≤ a ∧ a ≤ c)) := by
  unfold spec_l1In.f
  by_cases h : b ≤ a <;> simp [h]

theorem within_eq (a b c : Int) : impl_within.f a b c = some (decide (b ≤ a ∧ a ≤ c)) := by
  unfold impl_within.f
  by_cases h : b ≤ a <;> simp [h]

/-- Reading i of a log is as it should be. -/
def vR (xs : List S52) (i : Nat) : Prop := (0 ≤ (rd_T52 xs i).f0 ∧ (rd_T52 xs i).f0 ≤ 240) ∧ (-400 ≤ (rd_T52 xs i).f1 ∧ (rd_T52 xs i).f1 ≤ 400) ∧ (0 < i → (rd_T52 xs ((i : Int) - 1)).f0 < (rd_T52 xs i).f0)
/-- A valid log. -/
def Log (xs : List S52) : Prop := xs.length ≤ 20 ∧ ∀ i, i < xs.length → vR xs i

theorem readings_at (xs : List S52) (hl : xs.length ≤ 1048576) : ∀ d i : Nat, i + d = xs.length → ∃ b : Bool, Ev (fun k => spec_l21Good.l0 k xs i) b ∧ Ev (fun k => impl_IsValidReadings.l0 k xs xs xs.length i) b ∧
    (b = true ↔ xs.length ≤ 20 ∧ ∀ j, i ≤ j → j < xs.length → vR xs j) := by
  intro d
  induction d with
  | zero =>
    intro i hi
    refine ⟨decide ((xs.length : Int) ≤ 20), Ev.step (fun k => spec_l21Good.l0.eq_2 ..) (Ev.neg (by omega) (Ev.now _)), Ev.step (fun k => impl_IsValidReadings.l0.eq_2 ..) (Ev.neg (by omega) (Ev.now _)), ?_⟩
    rw [decide_eq_true_iff]
    exact ⟨fun h => ⟨by omega, fun j h1 h2 => by omega⟩, fun h => by omega⟩
  | succ d ih =>
    intro i hi
    have w1 : wrap64 ((i : Int) + 1) = ((i + 1 : Nat) : Int) := by rw [w64 (by omega) (by omega)]; rfl
    obtain ⟨b, s1, s2, s3⟩ := ih (i + 1) (by omega)
    have sp : ∀ r, Ev _ r → Ev (fun k => spec_l21Good.l0 k xs i) r := fun r hr => Ev.step (fun k => spec_l21Good.l0.eq_2 ..) (Ev.pos (by omega) (Ev.pos (by omega) (Ev.const (l1In_eq _ _ _) hr)))
    have im : ∀ r, Ev _ r → Ev (fun k => impl_IsValidReadings.l0 k xs xs xs.length i) r := fun r hr => Ev.step (fun k => impl_IsValidReadings.l0.eq_2 ..) (Ev.pos (by omega) (Ev.pos (by omega) (Ev.pos (by omega) (Ev.const (within_eq _ _ _) hr))))
    rw [w1] at sp im
    have no : ∀ h : ¬ vR xs i, ((false : Bool) = true ↔ xs.length ≤ 20 ∧ ∀ j, i ≤ j → j < xs.length → vR xs j) := fun h => ⟨(fun q => by cases q), fun h' => absurd (h'.2 i (by omega) (by omega)) h⟩
    by_cases c1 : 0 ≤ (rd_T52 xs i).f0 ∧ (rd_T52 xs i).f0 ≤ 240
    · by_cases c2 : -400 ≤ (rd_T52 xs i).f1 ∧ (rd_T52 xs i).f1 ≤ 400
      · by_cases c3 : (i : Int) > 0
        · have w2 : wrap64 ((i : Int) - 1) = (i : Int) - 1 := w64 (by omega) (by omega)
          rw [w2] at sp im
          by_cases c4 : (rd_T52 xs i).f0 ≤ (rd_T52 xs ((i : Int) - 1)).f0
          · exact ⟨false, sp _ (Ev.pos (by simp [c1]) (Ev.const (l1In_eq _ _ _) (Ev.pos (by simp [c2]) (Ev.pos c3 (Ev.pos (by omega) (Ev.pos (by omega) (Ev.pos c4 (Ev.now _)))))))),
              im _ (Ev.pos (by simp [c1]) (Ev.const (within_eq _ _ _) (Ev.pos (by simp [c2]) (Ev.pos c3 (Ev.pos (by omega) (Ev.pos (by omega) (Ev.pos c4 (Ev.now _)))))))), no (fun h => by have := h.2.2 (by omega); omega)⟩
          · refine ⟨b, sp _ (Ev.pos (by simp [c1]) (Ev.const (l1In_eq _ _ _) (Ev.pos (by simp [c2]) (Ev.pos c3 (Ev.pos (by omega) (Ev.pos (by omega) (Ev.neg (by omega) s1))))))),
              im _ (Ev.pos (by simp [c1]) (Ev.const (within_eq _ _ _) (Ev.pos (by simp [c2]) (Ev.pos c3 (Ev.pos (by omega) (Ev.pos (by omega) (Ev.neg (by omega) s2))))))), ?_⟩
            rw [s3]
            refine ⟨fun h => ⟨h.1, fun j h1 h2 => ?_⟩, fun h => ⟨h.1, fun j h1 h2 => h.2 j (by omega) h2⟩⟩
            rcases Nat.lt_or_ge i j with hj | hj
            · exact h.2 j hj h2
            · obtain rfl : j = i := by omega
              exact ⟨c1, c2, fun _ => by omega⟩
        · refine ⟨b, sp _ (Ev.pos (by simp [c1]) (Ev.const (l1In_eq _ _ _) (Ev.pos (by simp [c2]) (Ev.neg c3 s1)))), im _ (Ev.pos (by simp [c1]) (Ev.const (within_eq _ _ _) (Ev.pos (by simp [c2]) (Ev.neg c3 s2)))), ?_⟩
          rw [s3]
          refine ⟨fun h => ⟨h.1, fun j h1 h2 => ?_⟩, fun h => ⟨h.1, fun j h1 h2 => h.2 j (by omega) h2⟩⟩
          rcases Nat.lt_or_ge i j with hj | hj
          · exact h.2 j hj h2
          · obtain rfl : j = i := by omega
            exact ⟨c1, c2, fun _ => by omega⟩
      · exact ⟨false, sp _ (Ev.pos (by simp [c1]) (Ev.const (l1In_eq _ _ _) (Ev.neg (by simp; omega) (Ev.now _)))), im _ (Ev.pos (by simp [c1]) (Ev.const (within_eq _ _ _) (Ev.neg (by simp; omega) (Ev.now _)))), no (fun h => c2 h.2.1)⟩
    · exact ⟨false, sp _ (Ev.neg (by simp; omega) (Ev.now _)), im _ (Ev.neg (by simp; omega) (Ev.now _)), no (fun h => c1 h.1)⟩

theorem readings (xs : List S52) (hl : xs.length ≤ 1048576) : ∃ b : Bool, Ev (fun k => spec_l21Good.f k xs) b ∧ Ev (fun k => impl_IsValidReadings.f k xs) b ∧ (b = true ↔ Log xs) := by
  obtain ⟨b, h1, h2, h3⟩ := readings_at xs hl xs.length 0 (by omega)
  exact ⟨b, h1, h2, h3.trans ⟨fun h => ⟨h.1, fun i hi => h.2 i (by omega) hi⟩, fun h => ⟨h.1, fun j _ hj => h.2 j hj⟩⟩⟩

theorem FnExactIsValidReadings : ∀ (l0 : (List S49)), (l0.length ≤ 9223372036854775807 ∧ ∀ x ∈ l0, inv49 x) → ∃ k, laws_FnExactIsValidReadings.f k l0 = some true := by
  intro l0 ⟨hl, _⟩
  refine Ev.rounds ?_
  unfold laws_FnExactIsValidReadings.f
  refine Ev.const (szReadingS l0 1048576 (by omega) (by omega) hl) ?_
  by_cases hz : (1048576 : Int) < l0.length
  · exact Ev.pos (by rw [if_pos hz]; omega) (Ev.now _)
  · refine Ev.neg (by rw [if_neg hz]; omega) ?_
    have hn : l0.length ≤ 1048576 := by omega
    obtain ⟨b, h1, h2, h3⟩ := readings (l0.map convReading) (by simpa using hn)
    refine Ev.bind (toReadingS l0 hn) (Ev.bind (by unfold spec_IsValidReadings.f; exact Ev.bind h1 (Ev.now _)) (Ev.bind (toReadingS l0 hn) (Ev.bind h2 ?_)))
    refine Ev.neg (by simp) ?_
    exact Ev.bind (toReadingS l0 hn) (Ev.bind (eqReadingS _ (by simpa using hn)) (Ev.pos rfl (Ev.now _)))
end Go.Proofs.Ytjfookckobpheaa.Pure
