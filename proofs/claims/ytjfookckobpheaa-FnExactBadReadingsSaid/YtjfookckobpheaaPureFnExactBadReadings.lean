/- The program's BadReadings returns what the reference's returns, for all arguments; the argument reads as it did, and the result is new memory. No condition. -/
import Derived.Test.YtjfookckobpheaaInvFnExactBadReadings
import Derived.Test.YtjfookckobpheaaWHelp
namespace Go.Proofs.Ytjfookckobpheaa.Pure
open Go.RowKit Go.Proofs.YtjfookckobpheaaW.PrintWords Go.Proofs.YtjfookckobpheaaW.PrintLast Go.Proofs.YtjfookckobpheaaW.PrintMore Go.Proofs.YtjfookckobpheaaW.Help Go.Proofs.Ytjfookckobpheaa.PFnExactBadReadings
set_option linter.unusedVariables false

theorem szReadingS (l : List S49) (a : Int) (h0 : 0 ≤ a) (h1 : a ≤ 1048576) (hl : l.length ≤ 9223372036854775807) :
    laws_szReadingS.f l a = some (if a < l.length then -1 else a - l.length) := by
  unfold laws_szReadingS.f
  rw [w64 (by omega) (by omega)]
  by_cases h : a < l.length
  · rw [if_pos (by omega), if_pos h]
  · rw [if_neg (by omega), if_neg h]

def convReading (x : S49) : S52 := ⟨x.f0, x.f1, x.f2⟩

theorem toReadingS (l : List S49) (hl : l.length ≤ 1048576) : Ev (fun k => laws_toReadingS.f k l) (l.map convReading) := by
  unfold laws_toReadingS.f
  refine Ev.pos (by omega) (Ev.pos (by omega) ?_)
  simp only [Int.toNat_natCast]
  refine fill_ev l convReading z52 (fun k ys i => laws_toReadingS.l0 k l ys i) ?_ ?_
  · intro i h ys hy r hr
    refine Ev.step (fun k => laws_toReadingS.l0.eq_2 ..) ?_
    refine Ev.pos (by omega) (Ev.pos (by omega) ?_)
    refine Ev.const (a := (l[i].f0, l[i].f1, l[i].f2)) (by simp [laws_toReading.f, rd_T49, h]) ?_
    refine Ev.pos (by omega) ?_
    rw [w64 (by omega) (by omega)]
    exact hr
  · intro ys hy
    refine Ev.step (fun k => laws_toReadingS.l0.eq_2 ..) ?_
    exact Ev.neg (by omega) (Ev.now _)

theorem eqReadingS (l : List S52) (hl : l.length ≤ 1048576) : Ev (fun k => laws_eqReadingS.f k l l) true := by
  unfold laws_eqReadingS.f
  refine Ev.pos rfl ?_
  refine down_ev l.length (fun k i => laws_eqReadingS.l0 k l l i) ?_ ?_
  · intro i h hr
    refine Ev.step (fun k => laws_eqReadingS.l0.eq_2 ..) ?_
    refine Ev.pos (by omega) (Ev.pos (by omega) (Ev.pos (by omega) ?_))
    refine Ev.const (a := true) (by simp [laws_eqReading.f]) ?_
    refine Ev.pos rfl ?_
    rw [w64 (by omega) (by omega)]
    exact hr
  · refine Ev.step (fun k => laws_eqReadingS.l0.eq_2 ..) ?_
    exact Ev.neg (by omega) (Ev.now _)

theorem l1In_eq (a b c : Int) : spec_l1In.f a b c = some (decide (b ≤ a ∧ a ≤ c)) := by
  unfold spec_l1In.f
  by_cases h : b ≤ a <;> simp [h]

theorem within_eq (a b c : Int) : impl_within.f a b c = some (decide (b ≤ a ∧ a ≤ c)) := by
  unfold impl_within.f
  by_cases h : b ≤ a <;> simp [h]

/-- Reading i of a log is as it should be. -/
def vR (xs : List S52) (i : Nat) : Prop := (0 ≤ (rd_T52 xs i).f0 ∧ (rd_T52 xs i).f0 ≤ 240) ∧ (-400 ≤ (rd_T52 xs i).f1 ∧ (rd_T52 xs i).f1 ≤ 400) ∧ (0 < i → (rd_T52 xs ((i : Int) - 1)).f0 < (rd_T52 xs i).f0)
/-- A valid log. -/
def Log (xs : List S52) : Prop := xs.length ≤ 20 ∧ ∀ i, i < xs.length → vR xs i

theorem readings_at (xs : List S52) (hl : xs.length ≤ 1048576) : ∀ d i : Nat, i + d = xs.length → ∃ b : Bool, Ev (fun k => spec_l21Good.l0 k xs i) b ∧ Ev (fun k => impl_IsValidReadings.l0 k xs xs xs.length i) b ∧
    (b = true ↔ xs.length ≤ 20 ∧ ∀ j, i ≤ j → j < xs.length → vR xs j) := by
  intro d
  induction d with
  | zero =>
    intro i hi
    refine ⟨decide ((xs.length : Int) ≤ 20), Ev.step (fun k => spec_l21Good.l0.eq_2 ..) (Ev.neg (by omega) (Ev.now _)), Ev.step (fun k => impl_IsValidReadings.l0.eq_2 ..) (Ev.neg (by omega) (Ev.now _)), ?_⟩
    rw [decide_eq_true_iff]
    exact ⟨fun h => ⟨by omega, fun j h1 h2 => by omega⟩, fun h => by omega⟩
  | succ d ih =>
    intro i hi
    have w1 : wrap64 ((i : Int) + 1) = ((i + 1 : Nat) : Int) := by rw [w64 (by omega) (by omega)]; rfl
    obtain ⟨b, s1, s2, s3⟩ := ih (i + 1) (by omega)
    have sp : ∀ r, Ev _ r → Ev (fun k => spec_l21Good.l0 k xs i) r := fun r hr => Ev.step (fun k => spec_l21Good.l0.eq_2 ..) (Ev.pos (by omega) (Ev.pos (by omega) (Ev.const (l1In_eq _ _ _) hr)))
    have im : ∀ r, Ev _ r → Ev (fun k => impl_IsValidReadings.l0 k xs xs xs.length i) r := fun r hr => Ev.step (fun k => impl_IsValidReadings.l0.eq_2 ..) (Ev.pos (by omega) (Ev.pos (by omega) (Ev.pos (by omega) (Ev.const (within_eq _ _ _) hr))))
    rw [w1] at sp im
    have no : ∀ h : ¬ vR xs i, ((false : Bool) = true ↔ xs.length ≤ 20 ∧ ∀ j, i ≤ j → j < xs.length → vR xs j) := fun h => ⟨(fun q => by cases q), fun h' => absurd (h'.2 i (by omega) (by omega)) h⟩
    by_cases c1 : 0 ≤ (rd_T52 xs i).f0 ∧ (rd_T52 xs i).f0 ≤ 240
    · by_cases c2 : -400 ≤ (rd_T52 xs i).f1 ∧ (rd_T52 xs i).f1 ≤ 400
      · by_cases c3 : (i : Int) > 0
        · have w2 : wrap64 ((i : Int) - 1) = (i : Int) - 1 := w64 (by omega) (by omega)
          rw [w2] at sp im
          by_cases c4 : (rd_T52 xs i).f0 ≤ (rd_T52 xs ((i : Int) - 1)).f0
          · exact ⟨false, sp _ (Ev.pos (by simp [c1]) (Ev.const (l1In_eq _ _ _) (Ev.pos (by simp [c2]) (Ev.pos c3 (Ev.pos (by omega) (Ev.pos (by omega) (Ev.pos c4 (Ev.now _)))))))),
              im _ (Ev.pos (by simp [c1]) (Ev.const (within_eq _ _ _) (Ev.pos (by simp [c2]) (Ev.pos c3 (Ev.pos (by omega) (Ev.pos (by omega) (Ev.pos c4 (Ev.now _)))))))), no (fun h => by have := h.2.2 (by omega); omega)⟩
          · refine ⟨b, sp _ (Ev.pos (by simp [c1]) (Ev.const (l1In_eq _ _ _) (Ev.pos (by simp [c2]) (Ev.pos c3 (Ev.pos (by omega) (Ev.pos (by omega) (Ev.neg (by omega) s1))))))),
              im _ (Ev.pos (by simp [c1]) (Ev.const (within_eq _ _ _) (Ev.pos (by simp [c2]) (Ev.pos c3 (Ev.pos (by omega) (Ev.pos (by omega) (Ev.neg (by omega) s2))))))), ?_⟩
            rw [s3]
            refine ⟨fun h => ⟨h.1, fun j h1 h2 => ?_⟩, fun h => ⟨h.1, fun j h1 h2 => h.2 j (by omega) h2⟩⟩
            rcases Nat.lt_or_ge i j with hj | hj
            · exact h.2 j hj h2
            · obtain rfl : j = i := by omega
              exact ⟨c1, c2, fun _ => by omega⟩
        · refine ⟨b, sp _ (Ev.pos (by simp [c1]) (Ev.const (l1In_eq _ _ _) (Ev.pos (by simp [c2]) (Ev.neg c3 s1)))), im _ (Ev.pos (by simp [c1]) (Ev.const (within_eq _ _ _) (Ev.pos (by simp [c2]) (Ev.neg c3 s2)))), ?_⟩
          rw [s3]
          refine ⟨fun h => ⟨h.1, fun j h1 h2 => ?_⟩, fun h => ⟨h.1, fun j h1 h2 => h.2 j (by omega) h2⟩⟩
          rcases Nat.lt_or_ge i j with hj | hj
          · exact h.2 j hj h2
          · obtain rfl : j = i := by omega
            exact ⟨c1, c2, fun _ => by omega⟩
      · exact ⟨false, sp _ (Ev.pos (by simp [c1]) (Ev.const (l1In_eq _ _ _) (Ev.neg (by simp; omega) (Ev.now _)))), im _ (Ev.pos (by simp [c1]) (Ev.const (within_eq _ _ _) (Ev.neg (by simp; omega) (Ev.now _)))), no (fun h => c2 h.2.1)⟩
    · exact ⟨false, sp _ (Ev.neg (by simp; omega) (Ev.now _)), im _ (Ev.neg (by simp; omega) (Ev.now _)), no (fun h => c1 h.1)⟩

theorem readings (xs : List S52) (hl : xs.length ≤ 1048576) : ∃ b : Bool, Ev (fun k => spec_l21Good.f k xs) b ∧ Ev (fun k => impl_IsValidReadings.f k xs) b ∧ (b = true ↔ Log xs) := by
  obtain ⟨b, h1, h2, h3⟩ := readings_at xs hl xs.length 0 (by omega)
  exact ⟨b, h1, h2, h3.trans ⟨fun h => ⟨h.1, fun i hi => h.2 i (by omega) hi⟩, fun h => ⟨h.1, fun j _ hj => h.2 j hj⟩⟩⟩

/-- A valid log, a setting and a tolerance: the reference's test and the program's. -/
theorem setting (xs : List S52) (hl : xs.length ≤ 1048576) (s t : Int) : ∃ b : Bool, Ev (fun k => spec_l21Asked.f k xs s t) b ∧ Ev (fun k => impl_isSetting.f k xs s t) b ∧ (b = true ↔ Log xs ∧ (-300 ≤ s ∧ s ≤ 300) ∧ (0 ≤ t ∧ t ≤ 100)) := by
  obtain ⟨b, h1, h2, h3⟩ := readings xs hl
  unfold spec_l21Asked.f impl_isSetting.f
  by_cases hb : b = true
  · subst hb
    by_cases c1 : -300 ≤ s ∧ s ≤ 300
    · by_cases c2 : 0 ≤ t ∧ t ≤ 100
      · exact ⟨true, Ev.bind h1 (Ev.pos rfl (Ev.const (l1In_eq _ _ _) (Ev.pos (by simp [c1]) (Ev.const (l1In_eq _ _ _) (Ev.eq (Ev.now _) (by simp [c2])))))), Ev.bind h2 (Ev.pos rfl (Ev.const (within_eq _ _ _) (Ev.pos (by simp [c1]) (Ev.const (within_eq _ _ _) (Ev.eq (Ev.now _) (by simp [c2])))))), fun _ => ⟨h3.1 rfl, c1, c2⟩, fun _ => rfl⟩
      · exact ⟨false, Ev.bind h1 (Ev.pos rfl (Ev.const (l1In_eq _ _ _) (Ev.pos (by simp [c1]) (Ev.const (l1In_eq _ _ _) (Ev.eq (Ev.now _) (by simp; omega)))))), Ev.bind h2 (Ev.pos rfl (Ev.const (within_eq _ _ _) (Ev.pos (by simp [c1]) (Ev.const (within_eq _ _ _) (Ev.eq (Ev.now _) (by simp; omega)))))), (fun h => by cases h), fun h => absurd h.2.2 c2⟩
    · exact ⟨false, Ev.bind h1 (Ev.pos rfl (Ev.const (l1In_eq _ _ _) (Ev.neg (by simp; omega) (Ev.now _)))), Ev.bind h2 (Ev.pos rfl (Ev.const (within_eq _ _ _) (Ev.neg (by simp; omega) (Ev.now _)))), (fun h => by cases h), fun h => absurd h.2.1 c1⟩
  · exact ⟨false, Ev.bind h1 (Ev.neg hb (Ev.now _)), Ev.bind h2 (Ev.neg hb (Ev.now _)), (fun h => by cases h), fun h => absurd (h3.2 h.1) hb⟩
/-- Is a reading good? -/
def fine (x : S52) (s t : Int) : Prop := s - t ≤ x.f1 ∧ x.f1 ≤ s + t
instance (x : S52) (s t : Int) : Decidable (fine x s t) := by unfold fine; infer_instance
theorem fine_eq (x : S52) (s t : Int) (hs : -300 ≤ s ∧ s ≤ 300) (ht : 0 ≤ t ∧ t ≤ 100) : spec_l21Fine.f x.f0 x.f1 x.f2 s t = some (decide (fine x s t)) := by
  unfold spec_l21Fine.f
  rw [w64 (by omega) (by omega), w64 (by omega) (by omega), l1In_eq]
  rfl
theorem size_eq (x : S52) (s t : Int) (hx : -400 ≤ x.f1 ∧ x.f1 ≤ 400) (hs : -300 ≤ s ∧ s ≤ 300) : ∃ z, impl_size.f (wrap64 (x.f1 - s)) = some z ∧ (z ≤ t ↔ fine x s t) := by
  refine ⟨_, rfl, ?_⟩
  unfold fine mx
  rw [w64 (x := x.f1 - s) (by omega) (by omega), w64 (x := -(x.f1 - s)) (by omega) (by omega)]
  split <;> omega

theorem bad_at (xs : List S52) (s t : Int) (hl : xs.length ≤ 20) (hv : ∀ i, i < xs.length → vR xs i) (hs : -300 ≤ s ∧ s ≤ 300) (ht : 0 ≤ t ∧ t ≤ 100) : ∀ d i : Nat, i + d = xs.length → ∀ o : List Int, o.length ≤ i →
    ∃ r : List Int, Ev (fun k => spec_BadReadings.l0 k xs s t o (i : Int)) (r, true) ∧ Ev (fun k => impl_BadReadings.l0 k s t o xs xs.length (i : Int)) (r, true) ∧ r.length ≤ 20 := by
  intro d
  induction d with
  | zero =>
    intro i hi o ho
    exact ⟨o, Ev.step (fun k => spec_BadReadings.l0.eq_2 ..) (Ev.neg (by omega) (Ev.now _)), Ev.step (fun k => impl_BadReadings.l0.eq_2 ..) (Ev.neg (by omega) (Ev.now _)), by omega⟩
  | succ d ih =>
    intro i hi o ho
    have w1 : wrap64 ((i : Int) + 1) = ((i + 1 : Nat) : Int) := by rw [w64 (by omega) (by omega)]; rfl
    obtain ⟨z, hz, hzf⟩ := size_eq (rd_T52 xs i) s t (hv i (by omega)).2.1 hs
    by_cases hf : fine (rd_T52 xs i) s t
    · obtain ⟨r, r1, r2, r3⟩ := ih (i + 1) (by omega) o (by omega)
      rw [← w1] at r1 r2
      exact ⟨r, Ev.step (fun k => spec_BadReadings.l0.eq_2 ..) (Ev.pos (by omega) (Ev.pos (by omega) (Ev.const (fine_eq _ s t hs ht) (Ev.pos (by simpa using hf) r1)))),
        Ev.step (fun k => impl_BadReadings.l0.eq_2 ..) (Ev.pos (by omega) (Ev.pos (by omega) (Ev.pos (by omega) (Ev.const hz (Ev.neg (fun q => by have := hzf.2 hf; omega) r2))))), r3⟩
    · obtain ⟨r, r1, r2, r3⟩ := ih (i + 1) (by omega) (o ++ [(rd_T52 xs i).f0]) (by simp; omega)
      rw [← w1] at r1 r2
      exact ⟨r, Ev.step (fun k => spec_BadReadings.l0.eq_2 ..) (Ev.pos (by omega) (Ev.pos (by omega) (Ev.const (fine_eq _ s t hs ht) (Ev.neg (by simpa using hf) (Ev.pos (by omega) r1))))),
        Ev.step (fun k => impl_BadReadings.l0.eq_2 ..) (Ev.pos (by omega) (Ev.pos (by omega) (Ev.pos (by omega) (Ev.const hz (Ev.pos (Int.not_le.1 (fun q => hf (hzf.1 q))) (Ev.pos (by omega) r2)))))), r3⟩

theorem bad (xs : List S52) (hl : xs.length ≤ 1048576) (s t : Int) : ∃ r : List Int × Bool, Ev (fun k => spec_BadReadings.f k xs s t) r ∧ Ev (fun k => impl_BadReadings.f k xs s t) r ∧ r.1.length ≤ 20 := by
  obtain ⟨b, h1, h2, h3⟩ := setting xs hl s t
  unfold spec_BadReadings.f impl_BadReadings.f
  cases b with
  | false => exact ⟨([], false), Ev.some (Ev.bind h1 (Ev.neg (by simp) (Ev.now _))), Ev.bind h2 (Ev.neg (by simp) (Ev.now _)), by simp⟩
  | true =>
    obtain ⟨⟨l20, hv⟩, hs, ht⟩ := h3.1 rfl
    obtain ⟨r, r1, r2, r3⟩ := bad_at xs s t l20 hv hs ht xs.length 0 (by omega) [] (by simp)
    exact ⟨(r, true), Ev.some (Ev.bind h1 (Ev.pos rfl r1)), Ev.bind h2 (Ev.pos rfl r2), r3⟩

theorem rd_set_self (ys : List Int) (i : Nat) (v : Int) (h : i < ys.length) : rd (ys.set i v) (i : Int) = v := by
  unfold rd
  rw [Int.toNat_natCast, List.getD_eq_getElem?_getD, List.getElem?_set_self h]
  rfl
theorem rd_set_ne (ys : List Int) (i j : Nat) (v : Int) (h : j ≠ i) : rd (ys.set i v) (j : Int) = rd ys (j : Int) := by
  unfold rd
  rw [Int.toNat_natCast, List.getD_eq_getElem?_getD, List.getElem?_set_ne (by omega), ← List.getD_eq_getElem?_getD]

theorem eqIntS (l : List Int) (hl : l.length ≤ 1000000000) : Ev (fun k => laws_eqIntS.f k l l) true := by
  unfold laws_eqIntS.f
  refine Ev.pos rfl ?_
  refine down_ev l.length (fun k i => laws_eqIntS.l0 k l l i) ?_ ?_
  · intro i h hr
    refine Ev.step (fun k => laws_eqIntS.l0.eq_2 ..) (Ev.pos (by omega) (Ev.pos (by omega) (Ev.pos (by omega) (Ev.pos rfl ?_))))
    rw [w64 (by omega) (by omega)]
    exact hr
  · exact Ev.step (fun k => laws_eqIntS.l0.eq_2 ..) (Ev.neg (by omega) (Ev.now _))

theorem markIntS_at (l : List Int) (hl : l.length ≤ 1000000000) (a : Int) (h0 : 0 ≤ a) (h1 : a ≤ 1000000000) : ∀ d i : Nat, i + d = l.length → ∀ ys : List Int, ys.length = l.length → (∀ j : Nat, j < i → rd ys j = a + j) →
    ∃ zs : List Int, zs.length = l.length ∧ (∀ j : Nat, j < l.length → rd zs j = a + j) ∧ Ev (fun k => laws_markIntS.l0 k ys (a + i) i) (a + l.length, zs) := by
  intro d
  induction d with
  | zero =>
    intro i hi ys hy hm
    obtain rfl : i = l.length := by omega
    exact ⟨ys, hy, hm, Ev.step (fun k => laws_markIntS.l0.eq_2 ..) (Ev.neg (by omega) (Ev.now _))⟩
  | succ d ih =>
    intro i hi ys hy hm
    obtain ⟨zs, z1, z2, z3⟩ := ih (i + 1) (by omega) (ys.set i (a + i)) (by simpa using hy) (fun j hj => by
      rcases Nat.lt_or_ge j i with h | h
      · rw [rd_set_ne _ _ _ _ (by omega)]
        exact hm j h
      · obtain rfl : j = i := by omega
        exact rd_set_self _ _ _ (by omega))
    have e2 : wrap64 (a + i + 1) = a + ((i + 1 : Nat) : Int) := by rw [w64 (by omega) (by omega)]; omega
    have e3 : wrap64 ((i : Int) + 1) = ((i + 1 : Nat) : Int) := by rw [w64 (by omega) (by omega)]; rfl
    refine ⟨zs, z1, z2, Ev.step (fun k => laws_markIntS.l0.eq_2 ..) (Ev.pos (by omega) (Ev.pos (by omega) ?_))⟩
    rw [e2, e3, Int.toNat_natCast]
    exact z3
/-- Marks are laid one behind the other. -/
def Marked (zs : List Int) (a : Int) : Prop := ∀ j : Nat, j < zs.length → rd zs j = a + j
theorem heldIntS (zs : List Int) (hl : zs.length ≤ 1000000000) (a : Int) (h0 : 0 ≤ a) (h1 : a ≤ 1000000000) (hz : Marked zs a) : Ev (fun k => laws_heldIntS.f k zs a) (a + zs.length) := by
  unfold laws_heldIntS.f
  have held : ∀ d i : Nat, i + d = zs.length → Ev (fun k => laws_heldIntS.l0 k zs (a + i) i) (a + zs.length) := by
    intro d
    induction d with
    | zero =>
      intro i hi
      obtain rfl : i = zs.length := by omega
      exact Ev.step (fun k => laws_heldIntS.l0.eq_2 ..) (Ev.neg (by omega) (Ev.now _))
    | succ d ih =>
      intro i hi
      have := ih (i + 1) (by omega)
      have e2 : wrap64 (a + i + 1) = a + ((i + 1 : Nat) : Int) := by rw [w64 (by omega) (by omega)]; omega
      have e3 : wrap64 ((i : Int) + 1) = ((i + 1 : Nat) : Int) := by rw [w64 (by omega) (by omega)]; rfl
      refine Ev.step (fun k => laws_heldIntS.l0.eq_2 ..) (Ev.pos (by omega) (Ev.pos (by omega) (Ev.pos (hz i (by omega)) ?_)))
      rw [e2, e3]
      exact this
  simpa using held zs.length 0 (by omega)
theorem markIntS' (l : List Int) (hl : l.length ≤ 1000000000) (a : Int) (h0 : 0 ≤ a) (h1 : a ≤ 1000000000) : ∃ zs : List Int, zs.length = l.length ∧ Marked zs a ∧ Ev (fun k => laws_markIntS.f k l a) (a + l.length, zs) := by
  obtain ⟨zs, z1, z2, z3⟩ := markIntS_at l hl a h0 h1 l.length 0 (by omega) l rfl (fun j hj => by omega)
  exact ⟨zs, z1, (fun j hj => z2 j (by omega)), by unfold laws_markIntS.f; simpa using z3⟩
theorem markIntS (l : List Int) (hl : l.length ≤ 1000000000) (a : Int) (h0 : 0 ≤ a) (h1 : a ≤ 1000000000) : ∃ zs : List Int, Ev (fun k => laws_markIntS.f k l a) (a + l.length, zs) ∧ Ev (fun k => laws_heldIntS.f k zs a) (a + l.length) := by
  obtain ⟨zs, z1, z2, z3⟩ := markIntS' l hl a h0 h1
  refine ⟨zs, z3, ?_⟩
  rw [← z1]
  exact heldIntS zs (by omega) a h0 h1 z2

def mkReading (v : Int) : S52 := ⟨v, v + 1, Int.tmod (v + 2) 3 == 0⟩
theorem markReadingS (l : List S52) (hl : l.length ≤ 1048577) (a : Int) (h0 : 0 ≤ a) (h1 : a ≤ 1000000000) : ∃ zs : List S52, Ev (fun k => laws_markReadingS.f k l a) (a + 3 * l.length, zs) ∧ (∀ j : Nat, j < l.length → zs[j]? = some (mkReading (a + 3 * j))) ∧ zs.length = l.length := by
  unfold laws_markReadingS.f
  obtain ⟨zs, z1, z2, z3⟩ := mark_ev l.length 3 a mkReading (fun k ys v i => laws_markReadingS.l0 k ys v i) (fun i h ys hy r hr => by
    have e1 : wrap64 (a + 3 * i + 1) = a + 3 * i + 1 := w64 (by omega) (by omega)
    have e2 : wrap64 (a + 3 * i + 1 + 1) = a + 3 * i + 2 := by rw [w64 (by omega) (by omega)]; omega
    have e4 : wrap64 (a + 3 * i + 2 + 1) = a + 3 * ((i + 1 : Nat) : Int) := by rw [w64 (by omega) (by omega)]; omega
    have e3 : wrap64 ((i : Int) + 1) = ((i + 1 : Nat) : Int) := by rw [w64 (by omega) (by omega)]; rfl
    refine Ev.step (fun k => laws_markReadingS.l0.eq_2 ..) (Ev.pos (by omega) (Ev.pos (by omega) (Ev.some (Ev.some ?_))))
    rw [e1, e2, e3, e4]
    simp only [rd_T52, Int.toNat_natCast, List.set_set]
    rw [set_getD (by omega), set_getD (by omega)]
    exact hr) (fun ys hy => Ev.step (fun k => laws_markReadingS.l0.eq_2 ..) (Ev.neg (by omega) (Ev.now _))) l rfl
  exact ⟨zs, z3, z2, z1⟩

theorem FnExactBadReadings : ∀ (l0 : (List S49)) (a1 : Int) (a2 : Int), (l0.length ≤ 9223372036854775807 ∧ ∀ x ∈ l0, inv49 x) → (Lit.int .i64 a1).wf = true → (Lit.int .i64 a2).wf = true → ∃ k, laws_FnExactBadReadings.f k l0 a1 a2 = some true := by
  intro l0 a1 a2 ⟨hl, _⟩ _ _
  refine Ev.rounds ?_
  unfold laws_FnExactBadReadings.f
  refine Ev.const (szReadingS l0 1048576 (by omega) (by omega) hl) ?_
  by_cases hz : (1048576 : Int) < l0.length
  · exact Ev.pos (by rw [if_pos hz]; omega) (Ev.now _)
  · refine Ev.neg (by rw [if_neg hz]; omega) ?_
    have hn : l0.length ≤ 1048576 := by omega
    obtain ⟨r, h1, h2, h3⟩ := bad (l0.map convReading) (by simpa using hn) a1 a2
    have tv := toReadingS l0 hn
    have ar := eqReadingS (l0.map convReading) (by simp; omega)
    have er := eqIntS r.1 (by omega)
    obtain ⟨m1, m2, _⟩ := markReadingS (l0.map convReading) (by simp; omega) 1 (by omega) (by omega)
    obtain ⟨n1, n2, n3⟩ := markIntS r.1 (by omega) 1 (by omega) (by omega)
    refine Ev.bind tv (Ev.bind h1 (Ev.bind tv (Ev.bind h2 (Ev.bind er (Ev.pos rfl ?_)))))
    refine Ev.step (fun k => laws_FnExactBadReadings.j0.eq_2 ..) (Ev.neg (by simp) (Ev.bind tv (Ev.bind ar (Ev.pos rfl (Ev.bind m2 (Ev.neg (by simp; omega) (Ev.bind er (Ev.pos rfl ?_))))))))
    refine Ev.step (fun k => laws_FnExactBadReadings.j1.eq_2 ..) (Ev.neg (by simp) (Ev.bind n2 (Ev.bind n3 (Ev.neg (by omega) (Ev.pos rfl (Ev.bind tv (Ev.bind h2 (Ev.bind er (Ev.pos rfl ?_)))))))))
    exact Ev.step (fun k => laws_FnExactBadReadings.j2.eq_2 ..) (Ev.neg (by simp) (Ev.bind n3 (Ev.neg (by omega) (Ev.pos rfl (Ev.now _)))))
end Go.Proofs.Ytjfookckobpheaa.Pure
