/- The program's AddReading returns what the reference's returns, for all arguments; the argument reads as it did, and the result is new memory. No condition. -/
import Derived.Test.YtanjdogfghkddaaInvFnExactAddReading
import Derived.Test.YtanjdogfghkddaaWHelp
namespace Go.Proofs.Ytanjdogfghkddaa.Pure
open Go.RowKit Go.Proofs.YtanjdogfghkddaaW.PrintWords Go.Proofs.YtanjdogfghkddaaW.PrintLast Go.Proofs.YtanjdogfghkddaaW.PrintMore Go.Proofs.YtanjdogfghkddaaW.Help Go.Proofs.Ytanjdogfghkddaa.PFnExactAddReading
set_option linter.unusedVariables false

theorem szReadingS (l : List S24) (a : Int) (h0 : 0 ≤ a) (h1 : a ≤ 1048576) (hl : l.length ≤ 9223372036854775807) :
    laws_szReadingS.f l a = some (if a < l.length then -1 else a - l.length) := by
  unfold laws_szReadingS.f
  rw [w64 (by omega) (by omega)]
  by_cases h : a < l.length
  · rw [if_pos (by omega), if_pos h]
  · rw [if_neg (by omega), if_neg h]

def convReading (x : S24) : S30 := ⟨x.f0, x.f1, x.f2⟩

theorem toReadingS (l : List S24) (hl : l.length ≤ 1048576) : Ev (fun k => laws_toReadingS.f k l) (l.map convReading) := by
  unfold laws_toReadingS.f
  refine Ev.pos (by omega) (Ev.pos (by omega) ?_)
  simp only [Int.toNat_natCast]
  refine fill_ev l convReading z30 (fun k ys i => laws_toReadingS.l0 k l ys i) ?_ ?_
  · intro i h ys hy r hr
    refine Ev.step (fun k => laws_toReadingS.l0.eq_2 ..) ?_
    refine Ev.pos (by omega) (Ev.pos (by omega) ?_)
    refine Ev.const (a := (l[i].f0, l[i].f1, l[i].f2)) (by simp [laws_toReading.f, rd_T24, h]) ?_
    refine Ev.pos (by omega) ?_
    rw [w64 (by omega) (by omega)]
    exact hr
  · intro ys hy
    refine Ev.step (fun k => laws_toReadingS.l0.eq_2 ..) ?_
    exact Ev.neg (by omega) (Ev.now _)

theorem eqReadingS (l : List S30) (hl : l.length ≤ 1048576) : Ev (fun k => laws_eqReadingS.f k l l) true := by
  unfold laws_eqReadingS.f
  refine Ev.pos rfl ?_
  refine down_ev l.length (fun k i => laws_eqReadingS.l0 k l l i) ?_ ?_
  · intro i h hr
    refine Ev.step (fun k => laws_eqReadingS.l0.eq_2 ..) ?_
    refine Ev.pos (by omega) (Ev.pos (by omega) (Ev.pos (by omega) ?_))
    refine Ev.const (a := true) (by simp [laws_eqReading.f]) ?_
    refine Ev.pos rfl ?_
    rw [w64 (by omega) (by omega)]
    exact hr
  · refine Ev.step (fun k => laws_eqReadingS.l0.eq_2 ..) ?_
    exact Ev.neg (by omega) (Ev.now _)

theorem l1In_eq (a b c : Int) : spec_l1In.f a b c = some (decide (b ≤ a ∧ a ≤ c)) := by
  unfold spec_l1In.f
  by_cases h : b ≤ a <;> simp [h]

theorem within_eq (a b c : Int) : impl_within.f a b c = some (decide (b ≤ a ∧ a ≤ c)) := by
  unfold impl_within.f
  by_cases h : b ≤ a <;> simp [h]

/-- Reading i of a log is as it should be. -/
def vR (xs : List S30) (i : Nat) : Prop := (0 ≤ (rd_T30 xs i).f0 ∧ (rd_T30 xs i).f0 ≤ 240) ∧ (-400 ≤ (rd_T30 xs i).f1 ∧ (rd_T30 xs i).f1 ≤ 400) ∧ (0 < i → (rd_T30 xs ((i : Int) - 1)).f0 < (rd_T30 xs i).f0)
/-- A valid log. -/
def Log (xs : List S30) : Prop := xs.length ≤ 20 ∧ ∀ i, i < xs.length → vR xs i

theorem readings_at (xs : List S30) (hl : xs.length ≤ 1048576) : ∀ d i : Nat, i + d = xs.length → ∃ b : Bool, Ev (fun k => spec_l21Good.l0 k xs i) b ∧ Ev (fun k => impl_IsValidReadings.l0 k xs xs xs.length i) b ∧
    (b = true ↔ xs.length ≤ 20 ∧ ∀ j, i ≤ j → j < xs.length → vR xs j) := by
  intro d
  induction d with
  | zero =>
    intro i hi
    refine ⟨decide ((xs.length : Int) ≤ 20), Ev.step (fun k => spec_l21Good.l0.eq_2 ..) (Ev.neg (by omega) (Ev.now _)), Ev.step (fun k => impl_IsValidReadings.l0.eq_2 ..) (Ev.neg (by omega) (Ev.now _)), ?_⟩
    rw [decide_eq_true_iff]
    exact ⟨fun h => ⟨by omega, fun j h1 h2 => by omega⟩, fun h => by omega⟩
  | succ d ih =>
    intro i hi
    have w1 : wrap64 ((i : Int) + 1) = ((i + 1 : Nat) : Int) := by rw [w64 (by omega) (by omega)]; rfl
    obtain ⟨b, s1, s2, s3⟩ := ih (i + 1) (by omega)
    have sp : ∀ r, Ev _ r → Ev (fun k => spec_l21Good.l0 k xs i) r := fun r hr => Ev.step (fun k => spec_l21Good.l0.eq_2 ..) (Ev.pos (by omega) (Ev.pos (by omega) (Ev.const (l1In_eq _ _ _) hr)))
    have im : ∀ r, Ev _ r → Ev (fun k => impl_IsValidReadings.l0 k xs xs xs.length i) r := fun r hr => Ev.step (fun k => impl_IsValidReadings.l0.eq_2 ..) (Ev.pos (by omega) (Ev.pos (by omega) (Ev.pos (by omega) (Ev.const (within_eq _ _ _) hr))))
    rw [w1] at sp im
    have no : ∀ h : ¬ vR xs i, ((false : Bool) = true ↔ xs.length ≤ 20 ∧ ∀ j, i ≤ j → j < xs.length → vR xs j) := fun h => ⟨(fun q => by cases q), fun h' => absurd (h'.2 i (by omega) (by omega)) h⟩
    by_cases c1 : 0 ≤ (rd_T30 xs i).f0 ∧ (rd_T30 xs i).f0 ≤ 240
    · by_cases c2 : -400 ≤ (rd_T30 xs i).f1 ∧ (rd_T30 xs i).f1 ≤ 400
      · by_cases c3 : (i : Int) > 0
        · have w2 : wrap64 ((i : Int) - 1) = (i : Int) - 1 := w64 (by omega) (by omega)
          rw [w2] at sp im
          by_cases c4 : (rd_T30 xs i).f0 ≤ (rd_T30 xs ((i : Int) - 1)).f0
          · exact ⟨false, sp _ (Ev.pos (by simp [c1]) (Ev.const (l1In_eq _ _ _) (Ev.pos (by simp [c2]) (Ev.pos c3 (Ev.pos (by omega) (Ev.pos (by omega) (Ev.pos c4 (Ev.now _)))))))),
              im _ (Ev.pos (by simp [c1]) (Ev.const (within_eq _ _ _) (Ev.pos (by simp [c2]) (Ev.pos c3 (Ev.pos (by omega) (Ev.pos (by omega) (Ev.pos c4 (Ev.now _)))))))), no (fun h => by have := h.2.2 (by omega); omega)⟩
          · refine ⟨b, sp _ (Ev.pos (by simp [c1]) (Ev.const (l1In_eq _ _ _) (Ev.pos (by simp [c2]) (Ev.pos c3 (Ev.pos (by omega) (Ev.pos (by omega) (Ev.neg (by omega) s1))))))),
              im _ (Ev.pos (by simp [c1]) (Ev.const (within_eq _ _ _) (Ev.pos (by simp [c2]) (Ev.pos c3 (Ev.pos (by omega) (Ev.pos (by omega) (Ev.neg (by omega) s2))))))), ?_⟩
            rw [s3]
            refine ⟨fun h => ⟨h.1, fun j h1 h2 => ?_⟩, fun h => ⟨h.1, fun j h1 h2 => h.2 j (by omega) h2⟩⟩
            rcases Nat.lt_or_ge i j with hj | hj
            · exact h.2 j hj h2
            · obtain rfl : j = i := by omega
              exact ⟨c1, c2, fun _ => by omega⟩
        · refine ⟨b, sp _ (Ev.pos (by simp [c1]) (Ev.const (l1In_eq _ _ _) (Ev.pos (by simp [c2]) (Ev.neg c3 s1)))), im _ (Ev.pos (by simp [c1]) (Ev.const (within_eq _ _ _) (Ev.pos (by simp [c2]) (Ev.neg c3 s2)))), ?_⟩
          rw [s3]
          refine ⟨fun h => ⟨h.1, fun j h1 h2 => ?_⟩, fun h => ⟨h.1, fun j h1 h2 => h.2 j (by omega) h2⟩⟩
          rcases Nat.lt_or_ge i j with hj | hj
          · exact h.2 j hj h2
          · obtain rfl : j = i := by omega
            exact ⟨c1, c2, fun _ => by omega⟩
      · exact ⟨false, sp _ (Ev.pos (by simp [c1]) (Ev.const (l1In_eq _ _ _) (Ev.neg (by simp; omega) (Ev.now _)))), im _ (Ev.pos (by simp [c1]) (Ev.const (within_eq _ _ _) (Ev.neg (by simp; omega) (Ev.now _)))), no (fun h => c2 h.2.1)⟩
    · exact ⟨false, sp _ (Ev.neg (by simp; omega) (Ev.now _)), im _ (Ev.neg (by simp; omega) (Ev.now _)), no (fun h => c1 h.1)⟩

theorem readings (xs : List S30) (hl : xs.length ≤ 1048576) : ∃ b : Bool, Ev (fun k => spec_l21Good.f k xs) b ∧ Ev (fun k => impl_IsValidReadings.f k xs) b ∧ (b = true ↔ Log xs) := by
  obtain ⟨b, h1, h2, h3⟩ := readings_at xs hl xs.length 0 (by omega)
  exact ⟨b, h1, h2, h3.trans ⟨fun h => ⟨h.1, fun i hi => h.2 i (by omega) hi⟩, fun h => ⟨h.1, fun j _ hj => h.2 j hj⟩⟩⟩

theorem addReading (xs : List S30) (hl : xs.length ≤ 1048576) (h t : Int) (p : Bool) : ∃ r : List S30 × Bool, Ev (fun k => spec_AddReading.f k xs h t p) r ∧ Ev (fun k => impl_AddReading.f k xs h t p) r ∧ r.1.length ≤ 21 := by
  obtain ⟨b, h1, h2, h3⟩ := readings xs hl
  unfold spec_AddReading.f impl_AddReading.f
  by_cases c : b = true
  · have l20 := (h3.1 c).1
    have main : ∀ d i : Nat, i + d = xs.length → ∃ r : List S30 × Bool, Ev (fun k => spec_AddReading.l0 k xs i h t p) r ∧ Ev (fun k => impl_AddReading.l0 k xs i h t p) r ∧ r.1.length ≤ 21 := by
      have stop : ∀ i : Nat, i ≤ xs.length → ∃ (r : List S30 × Bool) (q : Bool), Ev (fun k => spec_l21Good.f k ([] ++ xs.take i ++ [(⟨h, t, p⟩ : S30)] ++ xs.drop i)) q ∧ r = (if q = true then ([] ++ xs.take i ++ [(⟨h, t, p⟩ : S30)] ++ xs.drop i, true) else ([], false)) ∧ Ev (fun k => impl_AddReading.j1 k xs i h t p) r ∧ r.1.length ≤ 21 := by
        intro i hi
        have len : ([] ++ xs.take i ++ [(⟨h, t, p⟩ : S30)] ++ xs.drop i).length = xs.length + 1 := by
          rw [List.length_append, List.length_append, List.length_append, List.length_take, List.length_drop]
          simp
          omega
        obtain ⟨q, g1, g2, _⟩ := readings ([] ++ xs.take i ++ [(⟨h, t, p⟩ : S30)] ++ xs.drop i) (by omega)
        refine ⟨_, q, g1, rfl, ?_, ?_⟩
        · refine Ev.step (fun k => impl_AddReading.j1.eq_2 ..) (Ev.const (a := xs) ?_ (Ev.const (a := [] ++ xs.take i ++ [(⟨h, t, p⟩ : S30)] ++ xs.drop i) ?_ (Ev.bind g2 ?_)))
          · unfold slices_Clone_impl_Reading.f
            show (if 0 + xs.length < 5864062014805 then some ([] ++ xs) else none) = _
            rw [if_pos (by omega), List.nil_append]
          · unfold slices_Insert_impl_Reading.f
            rw [if_pos (by omega), if_pos (by omega), if_pos (show [(⟨h, t, p⟩ : S30)].length = 1 from rfl), if_pos (by omega), Int.toNat_natCast, List.nil_append]
          · cases q with
            | true => exact Ev.pos rfl (Ev.now _)
            | false => exact Ev.neg (by simp) (Ev.now _)
        · cases q with
          | true => show ([] ++ xs.take i ++ [(⟨h, t, p⟩ : S30)] ++ xs.drop i).length ≤ 21; omega
          | false => simp
      intro d
      induction d with
      | zero =>
        intro i hi
        obtain ⟨r, q, q1, q2, q3, q4⟩ := stop i (by omega)
        refine ⟨r, Ev.step (fun k => spec_AddReading.l0.eq_2 ..) (Ev.neg (by omega) (Ev.some (Ev.pos (by omega) (Ev.pos (by omega) (Ev.some (Ev.pos (by simp; omega) (Ev.some (Ev.some (Ev.pos (by simp; omega) (Ev.some (Ev.some (Ev.pos (by simp; omega) (Ev.some ?_))))))))))))), Ev.step (fun k => impl_AddReading.l0.eq_2 ..) (Ev.neg (by omega) q3), q4⟩
        rw [Int.toNat_natCast]
        refine Ev.bind q1 ?_
        rw [q2]
        cases q with
        | true => exact Ev.pos rfl (Ev.now _)
        | false => exact Ev.neg (by simp) (Ev.now _)
      | succ d ih =>
        intro i hi
        by_cases g : (rd_T30 xs i).f0 < h
        · obtain ⟨r, s1, s2, s3⟩ := ih (i + 1) (by omega)
          have w1 : wrap64 ((i : Int) + 1) = ((i + 1 : Nat) : Int) := by rw [w64 (by omega) (by omega)]; rfl
          rw [← w1] at s1 s2
          exact ⟨r, Ev.step (fun k => spec_AddReading.l0.eq_2 ..) (Ev.pos (by omega) (Ev.pos (by omega) (Ev.pos g s1))), Ev.step (fun k => impl_AddReading.l0.eq_2 ..) (Ev.pos (by omega) (Ev.pos (by omega) (Ev.pos g s2))), s3⟩
        · obtain ⟨r, q, q1, q2, q3, q4⟩ := stop i (by omega)
          refine ⟨r, Ev.step (fun k => spec_AddReading.l0.eq_2 ..) (Ev.pos (by omega) (Ev.pos (by omega) (Ev.neg g (Ev.some (Ev.pos (by omega) (Ev.some (Ev.pos (by simp; omega) (Ev.some (Ev.some (Ev.pos (by simp; omega) (Ev.some (Ev.some (Ev.pos (by simp; omega) (Ev.some ?_)))))))))))))), Ev.step (fun k => impl_AddReading.l0.eq_2 ..) (Ev.pos (by omega) (Ev.pos (by omega) (Ev.neg g q3))), q4⟩
          rw [Int.toNat_natCast]
          refine Ev.bind q1 ?_
          rw [q2]
          cases q with
          | true => exact Ev.pos rfl (Ev.now _)
          | false => exact Ev.neg (by simp) (Ev.now _)
    obtain ⟨r, r1, r2, r3⟩ := main xs.length 0 (by omega)
    exact ⟨r, Ev.bind h1 (Ev.pos c r1), Ev.bind h2 (Ev.pos c r2), r3⟩
  · exact ⟨([], false), Ev.bind h1 (Ev.neg c (Ev.now _)), Ev.bind h2 (Ev.neg c (Ev.now _)), by simp⟩

def mkReading (v : Int) : S30 := ⟨v, v + 1, Int.tmod (v + 2) 3 == 0⟩
theorem markReadingS (l : List S30) (hl : l.length ≤ 1048577) (a : Int) (h0 : 0 ≤ a) (h1 : a ≤ 1000000000) : ∃ zs : List S30, Ev (fun k => laws_markReadingS.f k l a) (a + 3 * l.length, zs) ∧ (∀ j : Nat, j < l.length → zs[j]? = some (mkReading (a + 3 * j))) ∧ zs.length = l.length := by
  unfold laws_markReadingS.f
  obtain ⟨zs, z1, z2, z3⟩ := mark_ev l.length 3 a mkReading (fun k ys v i => laws_markReadingS.l0 k ys v i) (fun i h ys hy r hr => by
    have e1 : wrap64 (a + 3 * i + 1) = a + 3 * i + 1 := w64 (by omega) (by omega)
    have e2 : wrap64 (a + 3 * i + 1 + 1) = a + 3 * i + 2 := by rw [w64 (by omega) (by omega)]; omega
    have e4 : wrap64 (a + 3 * i + 2 + 1) = a + 3 * ((i + 1 : Nat) : Int) := by rw [w64 (by omega) (by omega)]; omega
    have e3 : wrap64 ((i : Int) + 1) = ((i + 1 : Nat) : Int) := by rw [w64 (by omega) (by omega)]; rfl
    refine Ev.step (fun k => laws_markReadingS.l0.eq_2 ..) (Ev.pos (by omega) (Ev.pos (by omega) (Ev.some (Ev.some ?_))))
    rw [e1, e2, e3, e4]
    simp only [rd_T30, Int.toNat_natCast, List.set_set]
    rw [set_getD (by omega), set_getD (by omega)]
    exact hr) (fun ys hy => Ev.step (fun k => laws_markReadingS.l0.eq_2 ..) (Ev.neg (by omega) (Ev.now _))) l rfl
  exact ⟨zs, z3, z2, z1⟩

theorem heldReadingS (zs : List S30) (n : Nat) (hn : zs.length = n) (hl : n ≤ 1048577) (hz : ∀ j : Nat, j < n → zs[j]? = some (mkReading (1 + 3 * (j : Int)))) : Ev (fun k => laws_heldReadingS.f k zs 1) (1 + 3 * (n : Int)) := by
  unfold laws_heldReadingS.f
  have held : ∀ d i : Nat, i + d = n → Ev (fun k => laws_heldReadingS.l0 k zs (1 + 3 * (i : Int)) i) (1 + 3 * (n : Int)) := by
    intro d
    induction d with
    | zero =>
      intro i hi
      obtain rfl : i = n := by omega
      exact Ev.step (fun k => laws_heldReadingS.l0.eq_2 ..) (Ev.neg (by omega) (Ev.now _))
    | succ d ih =>
      intro i hi
      have := ih (i + 1) (by omega)
      have e1 : wrap64 (1 + 3 * (i : Int) + 1) = 1 + 3 * i + 1 := w64 (by omega) (by omega)
      have e2 : wrap64 (1 + 3 * (i : Int) + 1 + 1) = 1 + 3 * i + 2 := by rw [w64 (by omega) (by omega)]; omega
      have e4 : wrap64 (1 + 3 * (i : Int) + 2 + 1) = 1 + 3 * ((i + 1 : Nat) : Int) := by rw [w64 (by omega) (by omega)]; omega
      have e3 : wrap64 ((i : Int) + 1) = ((i + 1 : Nat) : Int) := by rw [w64 (by omega) (by omega)]; rfl
      have e6 : rd_T30 zs (i : Int) = mkReading (1 + 3 * (i : Int)) := by
        unfold rd_T30
        rw [Int.toNat_natCast]
        exact getD_of (hz i (by omega))
      refine Ev.step (fun k => laws_heldReadingS.l0.eq_2 ..) (Ev.pos (by omega) (Ev.pos (by omega) ?_))
      rw [e6, e1, e2, e3, e4]
      exact Ev.pos rfl (Ev.pos rfl (Ev.neg (by simp [mkReading]) this))
  simpa using held n 0 (by omega)
theorem FnExactAddReading : ∀ (l0 : (List S24)) (y1 : S24), (l0.length ≤ 9223372036854775807 ∧ ∀ x ∈ l0, inv24 x) → inv24 y1 → ∃ k, laws_FnExactAddReading.f k l0 y1.f0 y1.f1 y1.f2 = some true := by
  intro l0 y1 ⟨hl, _⟩ _
  refine Ev.rounds ?_
  unfold laws_FnExactAddReading.f
  refine Ev.const (szReadingS l0 1048576 (by omega) (by omega) hl) ?_
  by_cases hz : (1048576 : Int) < l0.length
  · exact Ev.pos (by rw [if_pos hz]; omega) (Ev.now _)
  · refine Ev.neg (by rw [if_neg hz]; omega) ?_
    have hn : l0.length ≤ 1048576 := by omega
    obtain ⟨r, h1, h2, h3⟩ := addReading (l0.map convReading) (by simpa using hn) y1.f0 y1.f1 y1.f2
    have tv := toReadingS l0 hn
    have ar := eqReadingS (l0.map convReading) (by simp; omega)
    have er := eqReadingS r.1 (by omega)
    obtain ⟨m1, m2, _⟩ := markReadingS (l0.map convReading) (by simp; omega) 1 (by omega) (by omega)
    obtain ⟨n1, n2, n3, n4⟩ := markReadingS r.1 (by omega) 1 (by omega) (by omega)
    have n5 := heldReadingS n1 r.1.length n4 (by omega) n3
    refine Ev.bind tv (Ev.const (a := (y1.f0, y1.f1, y1.f2)) rfl (Ev.bind h1 (Ev.bind tv (Ev.const (a := (y1.f0, y1.f1, y1.f2)) rfl (Ev.bind h2 (Ev.bind er (Ev.pos rfl ?_)))))))
    refine Ev.step (fun k => laws_FnExactAddReading.j0.eq_2 ..) (Ev.neg (by simp) (Ev.bind tv (Ev.bind ar (Ev.pos rfl (Ev.bind m2 (Ev.neg (by simp; omega) (Ev.bind er (Ev.pos rfl ?_))))))))
    refine Ev.step (fun k => laws_FnExactAddReading.j1.eq_2 ..) (Ev.neg (by simp) (Ev.bind n2 (Ev.bind n5 (Ev.neg (by omega) (Ev.pos rfl (Ev.bind tv (Ev.const (a := (y1.f0, y1.f1, y1.f2)) rfl (Ev.bind h2 (Ev.bind er (Ev.pos rfl ?_))))))))))
    exact Ev.step (fun k => laws_FnExactAddReading.j2.eq_2 ..) (Ev.neg (by simp) (Ev.bind n5 (Ev.neg (by omega) (Ev.pos rfl (Ev.now _)))))
end Go.Proofs.Ytanjdogfghkddaa.Pure
