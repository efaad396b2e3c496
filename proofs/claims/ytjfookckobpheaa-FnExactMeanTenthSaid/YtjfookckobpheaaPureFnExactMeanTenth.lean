/- The program's MeanTenth returns what the reference's returns, for all arguments; the argument reads as it did. No condition. -/
import Derived.Test.YtjfookckobpheaaInvFnExactMeanTenth
import Derived.Test.YtjfookckobpheaaWHelp
namespace Go.Proofs.Ytjfookckobpheaa.Pure
open Go.RowKit Go.Proofs.YtjfookckobpheaaW.PrintWords Go.Proofs.YtjfookckobpheaaW.PrintLast Go.Proofs.YtjfookckobpheaaW.PrintMore Go.Proofs.YtjfookckobpheaaW.Help Go.Proofs.Ytjfookckobpheaa.PFnExactMeanTenth
set_option linter.unusedVariables false

theorem szReadingS (l : List S49) (a : Int) (h0 : 0 ≤ a) (h1 : a ≤ 1048576) (hl : l.length ≤ 9223372036854775807) :
    laws_szReadingS.f l a = some (if a < l.length then -1 else a - l.length) := by
  unfold laws_szReadingS.f
  rw [w64 (by omega) (by omega)]
  by_cases h : a < l.length
  · rw [if_pos (by omega), if_pos h]
  · rw [if_neg (by omega), if_neg h]

def convReading (x : S49) : S52 := ⟨x.f0, x.f1, x.f2⟩

theorem toReadingS (l : List S49) (hl : l.length ≤ 1048576) : Ev (fun k => laws_toReadingS.f k l) (l.map convReading) := by
  unfold laws_toReadingS.f
  refine Ev.pos (by omega) (Ev.pos (by omega) ?_)
  simp only [Int.toNat_natCast]
  refine fill_ev l convReading z52 (fun k ys i => laws_toReadingS.l0 k l ys i) ?_ ?_
  · intro i h ys hy r hr
    refine Ev.step (fun k => laws_toReadingS.l0.eq_2 ..) ?_
    refine Ev.pos (by omega) (Ev.pos (by omega) ?_)
    refine Ev.const (a := (l[i].f0, l[i].f1, l[i].f2)) (by simp [laws_toReading.f, rd_T49, h]) ?_
    refine Ev.pos (by omega) ?_
    rw [w64 (by omega) (by omega)]
    exact hr
  · intro ys hy
    refine Ev.step (fun k => laws_toReadingS.l0.eq_2 ..) ?_
    exact Ev.neg (by omega) (Ev.now _)

theorem eqReadingS (l : List S52) (hl : l.length ≤ 1048576) : Ev (fun k => laws_eqReadingS.f k l l) true := by
  unfold laws_eqReadingS.f
  refine Ev.pos rfl ?_
  refine down_ev l.length (fun k i => laws_eqReadingS.l0 k l l i) ?_ ?_
  · intro i h hr
    refine Ev.step (fun k => laws_eqReadingS.l0.eq_2 ..) ?_
    refine Ev.pos (by omega) (Ev.pos (by omega) (Ev.pos (by omega) ?_))
    refine Ev.const (a := true) (by simp [laws_eqReading.f]) ?_
    refine Ev.pos rfl ?_
    rw [w64 (by omega) (by omega)]
    exact hr
  · refine Ev.step (fun k => laws_eqReadingS.l0.eq_2 ..) ?_
    exact Ev.neg (by omega) (Ev.now _)

theorem l1In_eq (a b c : Int) : spec_l1In.f a b c = some (decide (b ≤ a ∧ a ≤ c)) := by
  unfold spec_l1In.f
  by_cases h : b ≤ a <;> simp [h]

theorem within_eq (a b c : Int) : impl_within.f a b c = some (decide (b ≤ a ∧ a ≤ c)) := by
  unfold impl_within.f
  by_cases h : b ≤ a <;> simp [h]

/-- Reading i of a log is as it should be. -/
def vR (xs : List S52) (i : Nat) : Prop := (0 ≤ (rd_T52 xs i).f0 ∧ (rd_T52 xs i).f0 ≤ 240) ∧ (-400 ≤ (rd_T52 xs i).f1 ∧ (rd_T52 xs i).f1 ≤ 400) ∧ (0 < i → (rd_T52 xs ((i : Int) - 1)).f0 < (rd_T52 xs i).f0)
/-- A valid log. -/
def Log (xs : List S52) : Prop := xs.length ≤ 20 ∧ ∀ i, i < xs.length → vR xs i

theorem readings_at (xs : List S52) (hl : xs.length ≤ 1048576) : ∀ d i : Nat, i + d = xs.length → ∃ b : Bool, Ev (fun k => spec_l21Good.l0 k xs i) b ∧ Ev (fun k => impl_IsValidReadings.l0 k xs xs xs.length i) b ∧
    (b = true ↔ xs.length ≤ 20 ∧ ∀ j, i ≤ j → j < xs.length → vR xs j) := by
  intro d
  induction d with
  | zero =>
    intro i hi
    refine ⟨decide ((xs.length : Int) ≤ 20), Ev.step (fun k => spec_l21Good.l0.eq_2 ..) (Ev.neg (by omega) (Ev.now _)), Ev.step (fun k => impl_IsValidReadings.l0.eq_2 ..) (Ev.neg (by omega) (Ev.now _)), ?_⟩
    rw [decide_eq_true_iff]
    exact ⟨fun h => ⟨by omega, fun j h1 h2 => by omega⟩, fun h => by omega⟩
  | succ d ih =>
    intro i hi
    have w1 : wrap64 ((i : Int) + 1) = ((i + 1 : Nat) : Int) := by rw [w64 (by omega) (by omega)]; rfl
    obtain ⟨b, s1, s2, s3⟩ := ih (i + 1) (by omega)
    have sp : ∀ r, Ev _ r → Ev (fun k => spec_l21Good.l0 k xs i) r := fun r hr => Ev.step (fun k => spec_l21Good.l0.eq_2 ..) (Ev.pos (by omega) (Ev.pos (by omega) (Ev.const (l1In_eq _ _ _) hr)))
    have im : ∀ r, Ev _ r → Ev (fun k => impl_IsValidReadings.l0 k xs xs xs.length i) r := fun r hr => Ev.step (fun k => impl_IsValidReadings.l0.eq_2 ..) (Ev.pos (by omega) (Ev.pos (by omega) (Ev.pos (by omega) (Ev.const (within_eq _ _ _) hr))))
    rw [w1] at sp im
    have no : ∀ h : ¬ vR xs i, ((false : Bool) = true ↔ xs.length ≤ 20 ∧ ∀ j, i ≤ j → j < xs.length → vR xs j) := fun h => ⟨(fun q => by cases q), fun h' => absurd (h'.2 i (by omega) (by omega)) h⟩
    by_cases c1 : 0 ≤ (rd_T52 xs i).f0 ∧ (rd_T52 xs i).f0 ≤ 240
    · by_cases c2 : -400 ≤ (rd_T52 xs i).f1 ∧ (rd_T52 xs i).f1 ≤ 400
      · by_cases c3 : (i : Int) > 0
        · have w2 : wrap64 ((i : Int) - 1) = (i : Int) - 1 := w64 (by omega) (by omega)
          rw [w2] at sp im
          by_cases c4 : (rd_T52 xs i).f0 ≤ (rd_T52 xs ((i : Int) - 1)).f0
          · exact ⟨false, sp _ (Ev.pos (by simp [c1]) (Ev.const (l1In_eq _ _ _) (Ev.pos (by simp [c2]) (Ev.pos c3 (Ev.pos (by omega) (Ev.pos (by omega) (Ev.pos c4 (Ev.now _)))))))),
              im _ (Ev.pos (by simp [c1]) (Ev.const (within_eq _ _ _) (Ev.pos (by simp [c2]) (Ev.pos c3 (Ev.pos (by omega) (Ev.pos (by omega) (Ev.pos c4 (Ev.now _)))))))), no (fun h => by have := h.2.2 (by omega); omega)⟩
          · refine ⟨b, sp _ (Ev.pos (by simp [c1]) (Ev.const (l1In_eq _ _ _) (Ev.pos (by simp [c2]) (Ev.pos c3 (Ev.pos (by omega) (Ev.pos (by omega) (Ev.neg (by omega) s1))))))),
              im _ (Ev.pos (by simp [c1]) (Ev.const (within_eq _ _ _) (Ev.pos (by simp [c2]) (Ev.pos c3 (Ev.pos (by omega) (Ev.pos (by omega) (Ev.neg (by omega) s2))))))), ?_⟩
            rw [s3]
            refine ⟨fun h => ⟨h.1, fun j h1 h2 => ?_⟩, fun h => ⟨h.1, fun j h1 h2 => h.2 j (by omega) h2⟩⟩
            rcases Nat.lt_or_ge i j with hj | hj
            · exact h.2 j hj h2
            · obtain rfl : j = i := by omega
              exact ⟨c1, c2, fun _ => by omega⟩
        · refine ⟨b, sp _ (Ev.pos (by simp [c1]) (Ev.const (l1In_eq _ _ _) (Ev.pos (by simp [c2]) (Ev.neg c3 s1)))), im _ (Ev.pos (by simp [c1]) (Ev.const (within_eq _ _ _) (Ev.pos (by simp [c2]) (Ev.neg c3 s2)))), ?_⟩
          rw [s3]
          refine ⟨fun h => ⟨h.1, fun j h1 h2 => ?_⟩, fun h => ⟨h.1, fun j h1 h2 => h.2 j (by omega) h2⟩⟩
          rcases Nat.lt_or_ge i j with hj | hj
          · exact h.2 j hj h2
          · obtain rfl : j = i := by omega
            exact ⟨c1, c2, fun _ => by omega⟩
      · exact ⟨false, sp _ (Ev.pos (by simp [c1]) (Ev.const (l1In_eq _ _ _) (Ev.neg (by simp; omega) (Ev.now _)))), im _ (Ev.pos (by simp [c1]) (Ev.const (within_eq _ _ _) (Ev.neg (by simp; omega) (Ev.now _)))), no (fun h => c2 h.2.1)⟩
    · exact ⟨false, sp _ (Ev.neg (by simp; omega) (Ev.now _)), im _ (Ev.neg (by simp; omega) (Ev.now _)), no (fun h => c1 h.1)⟩

theorem readings (xs : List S52) (hl : xs.length ≤ 1048576) : ∃ b : Bool, Ev (fun k => spec_l21Good.f k xs) b ∧ Ev (fun k => impl_IsValidReadings.f k xs) b ∧ (b = true ↔ Log xs) := by
  obtain ⟨b, h1, h2, h3⟩ := readings_at xs hl xs.length 0 (by omega)
  exact ⟨b, h1, h2, h3.trans ⟨fun h => ⟨h.1, fun i hi => h.2 i (by omega) hi⟩, fun h => ⟨h.1, fun j _ hj => h.2 j hj⟩⟩⟩

theorem gcd_tmod (u v : Int) : Int.gcd v (Int.tmod u v) = Int.gcd u v := by
  rw [Int.gcd_eq_natAbs_gcd_natAbs, Int.gcd_eq_natAbs_gcd_natAbs, Int.natAbs_tmod, Nat.gcd_comm v.natAbs, Nat.gcd_comm u.natAbs]
  exact (Nat.gcd_rec v.natAbs u.natAbs).symm
/-- The greatest common divisor, as the reference reckons it. -/
theorem common_at : ∀ (n : Nat) (a b : Int), 0 ≤ a → 0 ≤ b → b.toNat ≤ n → Ev (fun k => spec_l15Common.l0 k a b) (Int.gcd a b : Int) := by
  intro n
  induction n with
  | zero =>
    intro a b ha hb hn
    obtain rfl : b = 0 := by omega
    refine Ev.step (fun k => spec_l15Common.l0.eq_2 ..) (Ev.pos rfl (Ev.eq (Ev.now _) ?_))
    rw [Int.gcd_zero_right]
    omega
  | succ n ih =>
    intro a b ha hb hn
    by_cases c : b = 0
    · subst c
      refine Ev.step (fun k => spec_l15Common.l0.eq_2 ..) (Ev.pos rfl (Ev.eq (Ev.now _) ?_))
      rw [Int.gcd_zero_right]
      omega
    · have e : Int.tmod a b = a % b := Int.tmod_eq_emod_of_nonneg ha
      have h1 := Int.emod_nonneg a c
      have h2 := Int.emod_lt_of_pos a (show 0 < b by omega)
      refine Ev.step (fun k => spec_l15Common.l0.eq_2 ..) (Ev.neg c (Ev.eq (ih b (Int.tmod a b) hb (by omega) (by omega)) ?_))
      rw [gcd_tmod]
/-- The program's own way: the loop of a signed pair ends at the divisor or its negative. -/
theorem fraction_at (a0 b0 : Int) (hb0 : 0 < b0) (r : Int × Int) (g : Int) (hg : 0 < g) (hg2 : g ≤ 9223372036854775807) (hr : r = (wrap64 (Int.tdiv a0 g), wrap64 (Int.tdiv b0 g))) : ∀ (n : Nat) (u v : Int), v.natAbs ≤ n → (Int.gcd u v : Int) = g → Ev (fun k => impl_fraction.l0 k a0 b0 u v) r := by
  intro n
  have last : ∀ u : Int, (Int.gcd u 0 : Int) = g → Ev (fun k => impl_fraction.l0 k a0 b0 u 0) r := by
    intro u hu
    rw [Int.gcd_zero_right] at hu
    have hb : decide (b0 < 0) = false := by simp; omega
    refine Ev.step (fun k => impl_fraction.l0.eq_2 ..) (Ev.pos rfl ?_)
    rw [hb]
    by_cases c : u < 0
    · have e : wrap64 (-u) = g := by rw [w64 (by omega) (by omega)]; omega
      rw [e]
      exact Ev.pos (by simp [c]) (Ev.neg (by omega) (Ev.eq (Ev.now _) hr.symm))
    · have e : u = g := by omega
      subst e
      exact Ev.neg (by simp; omega) (Ev.neg (by omega) (Ev.eq (Ev.now _) hr.symm))
  induction n with
  | zero =>
    intro u v hn hu
    obtain rfl : v = 0 := by omega
    exact last u hu
  | succ n ih =>
    intro u v hn hu
    by_cases c : v = 0
    · subst c
      exact last u hu
    · refine Ev.step (fun k => impl_fraction.l0.eq_2 ..) (Ev.neg c (ih v (Int.tmod u v) ?_ ?_))
      · have := Int.natAbs_tmod u v
        have h := Nat.mod_lt u.natAbs (show 0 < v.natAbs by omega)
        omega
      · rw [← hu]
        rw [gcd_tmod]

/-- A fraction in lowest terms: the reference's and the program's. -/
theorem reduced (a b : Int) (ha0 : -9223372036854775807 ≤ a) (ha1 : a ≤ 9223372036854775807) (hb0 : 0 < b) (hb1 : b ≤ 9223372036854775807) :
    ∃ g : Int, 0 < g ∧ g = Int.gcd a b ∧ Ev (fun k => spec_l15Reduce.f k a b) (wrap64 (Int.tdiv a g), wrap64 (Int.tdiv b g)) ∧ Ev (fun k => impl_fraction.f k a b) (wrap64 (Int.tdiv a g), wrap64 (Int.tdiv b g)) := by
  have hg : 0 < (Int.gcd a b : Int) := by
    have : 0 < Int.gcd a b := Int.gcd_pos_of_ne_zero_right a (by omega)
    omega
  have hg2 : (Int.gcd a b : Int) ≤ b := Int.le_of_dvd hb0 (Int.gcd_dvd_right a b)
  refine ⟨Int.gcd a b, hg, rfl, ?_, ?_⟩
  · unfold spec_l15Reduce.f spec_l15Common.f
    have m : ∀ x : Int, -9223372036854775807 ≤ x → x ≤ 9223372036854775807 → spec_l1Most.f x (wrap64 (-x)) = some (x.natAbs : Int) := by
      intro x h0 h1
      unfold spec_l1Most.f
      rw [w64 (by omega) (by omega)]
      by_cases c : x > -x
      · rw [if_pos c]; congr 1; omega
      · rw [if_neg c]; congr 1; omega
    have := common_at b.natAbs (a.natAbs : Int) (b.natAbs : Int) (by omega) (by omega) (by omega)
    rw [show Int.gcd (a.natAbs : Int) (b.natAbs : Int) = Int.gcd a b from by simp [Int.gcd]] at this
    exact Ev.bind (Ev.const (m a ha0 ha1) (Ev.const (m b (by omega) hb1) this)) (Ev.neg (by omega) (Ev.now _))
  · unfold impl_fraction.f
    exact fraction_at a b hb0 _ _ hg (by omega) rfl b.natAbs a b (Nat.le_refl _) rfl

theorem mean_at (xs : List S52) (hl : xs.length ≤ 20) (h2 : 2 ≤ xs.length) (hv : ∀ i, i < xs.length → vR xs i) :
    ∀ d i : Nat, i + 1 + d = xs.length → ∀ a : Int, -96000 * (i : Int) ≤ a → a ≤ 96000 * (i : Int) → ∃ s n m : Int, -96000 * 20 ≤ s ∧ s ≤ 96000 * 20 ∧
      Ev (fun k => spec_MeanTenth.l0 k xs a i) (n, m, true) ∧ Ev (fun k => impl_MeanTenth.l0 k xs a ((i + 1 : Nat) : Int)) (n, m, true) := by
  intro d
  have w3 : wrap64 ((xs.length : Int) - 1) = (xs.length : Int) - 1 := w64 (by omega) (by omega)
  induction d with
  | zero =>
    intro i hi a h0 h1
    have w1 : wrap64 ((i : Int) + 1) = ((i + 1 : Nat) : Int) := by rw [w64 (by omega) (by omega)]; rfl
    -- the hours rise
    have rise : ∀ j, j < xs.length → (rd_T52 xs 0).f0 + j ≤ (rd_T52 xs j).f0 := by
      intro j
      induction j with
      | zero => intro _; simp
      | succ j ihj =>
        intro hj
        have := ihj (by omega)
        have h3 := (hv (j + 1) hj).2.2 (by omega)
        rw [show (((j + 1 : Nat) : Int) - 1) = (j : Int) by omega] at h3
        omega
    have hlast := rise (xs.length - 1) (by omega)
    have v0 := (hv 0 (by omega)).1
    have v1 := (hv (xs.length - 1) (by omega)).1
    rw [show ((xs.length - 1 : Nat) : Int) = (xs.length : Int) - 1 by omega] at hlast v1
    have w4 : wrap64 ((rd_T52 xs ((xs.length : Int) - 1)).f0 - (rd_T52 xs 0).f0) = (rd_T52 xs ((xs.length : Int) - 1)).f0 - (rd_T52 xs 0).f0 := w64 (by simp at v0; omega) (by simp at v0; omega)
    obtain ⟨g, g1, g2, s1, s2⟩ := reduced a ((rd_T52 xs ((xs.length : Int) - 1)).f0 - (rd_T52 xs 0).f0) (by omega) (by omega) (by omega) (by simp at v0; omega)
    refine ⟨a, wrap64 (Int.tdiv a g), wrap64 (Int.tdiv ((rd_T52 xs ((xs.length : Int) - 1)).f0 - (rd_T52 xs 0).f0) g), by omega, by omega, Ev.step (fun k => spec_MeanTenth.l0.eq_2 ..) (Ev.neg (by omega) ?_), Ev.step (fun k => impl_MeanTenth.l0.eq_2 ..) (Ev.neg (by omega) ?_)⟩
    · rw [w3, w4]
      exact Ev.pos (by omega) (Ev.pos (by omega) (Ev.pos (by omega) (Ev.bind s1 (Ev.now _))))
    · rw [w3, w4]
      exact Ev.pos (by omega) (Ev.pos (by omega) (Ev.pos (by omega) (Ev.bind s2 (Ev.now _))))
  | succ d ih =>
    intro i hi a h0 h1
    have w1 : wrap64 ((i : Int) + 1) = ((i + 1 : Nat) : Int) := by rw [w64 (by omega) (by omega)]; rfl
    have w2 : wrap64 (((i + 1 : Nat) : Int) - 1) = (i : Int) := by rw [w64 (by omega) (by omega)]; omega
    have w5 : wrap64 (((i + 1 : Nat) : Int) + 1) = ((i + 1 + 1 : Nat) : Int) := by rw [w64 (by omega) (by omega)]; rfl
    obtain ⟨c1, c2, _⟩ := hv i (by omega)
    obtain ⟨c4, _, c6⟩ := hv (i + 1) (by omega)
    have c7 := c6 (by omega)
    rw [show (((i + 1 : Nat) : Int) - 1) = (i : Int) by omega] at c7
    generalize ht : (rd_T52 xs i).f1 = t at *
    generalize hp : (rd_T52 xs i).f0 = p at *
    generalize hq : (rd_T52 xs ((i + 1 : Nat) : Int)).f0 = q at *
    have w6 : wrap64 (q - p) = q - p := w64 (by omega) (by omega)
    have b1 : t * (q - p) ≤ 96000 := by
      have h3 : t * (q - p) ≤ 400 * (q - p) := Int.mul_le_mul_of_nonneg_right c2.2 (by omega)
      omega
    have b2 : -96000 ≤ t * (q - p) := by
      have h3 : -400 * (q - p) ≤ t * (q - p) := Int.mul_le_mul_of_nonneg_right c2.1 (by omega)
      omega
    have w7 : wrap64 (t * (q - p)) = t * (q - p) := w64 (by omega) (by omega)
    have w8 : wrap64 (a + t * (q - p)) = a + t * (q - p) := w64 (by omega) (by omega)
    obtain ⟨s, n, m, k1, k2, k3, k4⟩ := ih (i + 1) (by omega) (a + t * (q - p)) (by omega) (by omega)
    refine ⟨s, n, m, k1, k2, Ev.step (fun k => spec_MeanTenth.l0.eq_2 ..) (Ev.pos (by omega) (Ev.pos (by omega) (Ev.pos (by omega) (Ev.pos (by omega) ?_)))), Ev.step (fun k => impl_MeanTenth.l0.eq_2 ..) (Ev.pos (by omega) (Ev.pos (by omega) (Ev.pos (by omega) (Ev.pos (by omega) ?_))))⟩
    · rw [w1, ht, hp, hq, w6, w7, w8]
      exact k3
    · rw [w2, w5, ht, hp, hq, w6, w7, w8]
      exact k4

theorem mean (xs : List S52) (hl : xs.length ≤ 1048576) : ∃ r, Ev (fun k => spec_MeanTenth.f k xs) r ∧ Ev (fun k => impl_MeanTenth.f k xs) r := by
  obtain ⟨b, h1, h2, h3⟩ := readings xs hl
  unfold spec_MeanTenth.f impl_MeanTenth.f
  cases b with
  | false => exact ⟨(0, 0, false), Ev.bind h1 (Ev.neg (by simp) (Ev.step (fun k => spec_MeanTenth.j0.eq_2 ..) (Ev.pos rfl (Ev.now _)))), Ev.bind h2 (Ev.neg (by simp) (Ev.step (fun k => impl_MeanTenth.j0.eq_2 ..) (Ev.pos rfl (Ev.now _))))⟩
  | true =>
    obtain ⟨l20, hv⟩ := h3.1 rfl
    by_cases c : (xs.length : Int) < 2
    · exact ⟨(0, 0, false), Ev.bind h1 (Ev.pos rfl (Ev.step (fun k => spec_MeanTenth.j0.eq_2 ..) (Ev.pos (by simp; omega) (Ev.now _)))), Ev.bind h2 (Ev.pos rfl (Ev.step (fun k => impl_MeanTenth.j0.eq_2 ..) (Ev.pos (by simp; omega) (Ev.now _))))⟩
    · obtain ⟨s, n, m, _, _, k3, k4⟩ := mean_at xs l20 (by omega) hv (xs.length - 1) 0 (by omega) 0 (by omega) (by omega)
      exact ⟨(n, m, true), Ev.bind h1 (Ev.pos rfl (Ev.step (fun k => spec_MeanTenth.j0.eq_2 ..) (Ev.neg (by simp; omega) k3))), Ev.bind h2 (Ev.pos rfl (Ev.step (fun k => impl_MeanTenth.j0.eq_2 ..) (Ev.neg (by simp; omega) k4)))⟩

theorem FnExactMeanTenth : ∀ (l0 : (List S49)), (l0.length ≤ 9223372036854775807 ∧ ∀ x ∈ l0, inv49 x) → ∃ k, laws_FnExactMeanTenth.f k l0 = some true := by
  intro l0 ⟨hl, _⟩
  refine Ev.rounds ?_
  unfold laws_FnExactMeanTenth.f
  refine Ev.const (szReadingS l0 1048576 (by omega) (by omega) hl) ?_
  by_cases hz : (1048576 : Int) < l0.length
  · exact Ev.pos (by rw [if_pos hz]; omega) (Ev.now _)
  · refine Ev.neg (by rw [if_neg hz]; omega) ?_
    have hn : l0.length ≤ 1048576 := by omega
    obtain ⟨r, h1, h2⟩ := mean (l0.map convReading) (by simpa using hn)
    refine Ev.bind (toReadingS l0 hn) (Ev.bind h1 (Ev.bind (toReadingS l0 hn) (Ev.bind h2 ?_)))
    refine Ev.pos rfl (Ev.pos rfl ?_)
    refine Ev.step (fun k => laws_FnExactMeanTenth.j0.eq_2 ..) (Ev.neg (by simp) ?_)
    exact Ev.bind (toReadingS l0 hn) (Ev.bind (eqReadingS _ (by simp; omega)) (Ev.pos rfl (Ev.now _)))
end Go.Proofs.Ytjfookckobpheaa.Pure
