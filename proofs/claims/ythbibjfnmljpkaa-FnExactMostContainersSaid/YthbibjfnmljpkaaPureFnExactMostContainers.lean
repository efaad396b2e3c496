/- The program's MostContainers returns what the reference's returns, for all arguments; the arguments read as they did. No condition. -/
import Derived.Test.YthbibjfnmljpkaaInvFnExactMostContainers
import Derived.Test.YthbibjfnmljpkaaWHelp
namespace Go.Proofs.Ythbibjfnmljpkaa.Pure
open Go.RowKit Go.Proofs.YthbibjfnmljpkaaW.PrintWords Go.Proofs.YthbibjfnmljpkaaW.PrintLast Go.Proofs.YthbibjfnmljpkaaW.PrintMore Go.Proofs.YthbibjfnmljpkaaW.Help Go.Proofs.Ythbibjfnmljpkaa.PFnExactMostContainers
set_option linter.unusedVariables false

def convWagon (x : S63) : S54 := ⟨x.f0, x.f1⟩
theorem szWagonS (l : List S63) (a : Int) (h0 : 0 ≤ a) (h1 : a ≤ 1048576) (hl : l.length ≤ 9223372036854775807) :
    laws_szWagonS.f l a = some (if a < l.length then -1 else a - l.length) := by
  unfold laws_szWagonS.f
  rw [w64 (by omega) (by omega)]
  by_cases h : a < l.length
  · rw [if_pos (by omega), if_pos h]
  · rw [if_neg (by omega), if_neg h]
theorem toWagonS (l : List S63) (hl : l.length ≤ 1048576) : Ev (fun k => laws_toWagonS.f k l) (l.map convWagon) := by
  unfold laws_toWagonS.f
  refine Ev.pos (by omega) (Ev.pos (by omega) ?_)
  simp only [Int.toNat_natCast]
  refine fill_ev l convWagon z54 (fun k ys i => laws_toWagonS.l0 k l ys i) ?_ ?_
  · intro i h ys hy r hr
    refine Ev.step (fun k => laws_toWagonS.l0.eq_2 ..) ?_
    refine Ev.pos (by omega) (Ev.pos (by omega) ?_)
    refine Ev.const (a := (l[i].f0, l[i].f1)) (by simp [laws_toWagon.f, rd_T63, h]) ?_
    refine Ev.pos (by omega) ?_
    rw [w64 (by omega) (by omega)]
    exact hr
  · intro ys hy
    refine Ev.step (fun k => laws_toWagonS.l0.eq_2 ..) ?_
    exact Ev.neg (by omega) (Ev.now _)
theorem eqWagonS (l : List S54) (hl : l.length ≤ 1048577) : Ev (fun k => laws_eqWagonS.f k l l) true := by
  unfold laws_eqWagonS.f
  refine Ev.pos rfl ?_
  refine down_ev l.length (fun k i => laws_eqWagonS.l0 k l l i) ?_ ?_
  · intro i h hr
    refine Ev.step (fun k => laws_eqWagonS.l0.eq_2 ..) ?_
    refine Ev.pos (by omega) (Ev.pos (by omega) (Ev.pos (by omega) ?_))
    refine Ev.const (a := true) (by simp [laws_eqWagon.f]) ?_
    refine Ev.pos rfl ?_
    rw [w64 (by omega) (by omega)]
    exact hr
  · refine Ev.step (fun k => laws_eqWagonS.l0.eq_2 ..) ?_
    exact Ev.neg (by omega) (Ev.now _)

theorem str_ext {s t : ByteArray} (h : s.data.toList = t.data.toList) : s = t := by
  obtain ⟨⟨a⟩⟩ := s
  obtain ⟨⟨b⟩⟩ := t
  have h' : a = b := h
  rw [h']
theorem str_eq {s t : ByteArray} : s.toList = t.toList ↔ s = t := by
  rw [ByteArray.toList_eq, ByteArray.toList_eq]
  exact ⟨str_ext, fun h => by rw [h]⟩

theorem szContainerS (l : List S59) (a : Int) (ha0 : 0 ≤ a) (ha : a ≤ 1048576) (hl : l.length ≤ 9223372036854775807) (hx : ∀ x ∈ l, x.f0.size ≤ 9223372036854775807) : ∃ r : Int, Ev (fun k => laws_szContainerS.f k l a) r ∧ (0 ≤ r → l.length ≤ 1048576 ∧ ∀ x ∈ l, x.f0.size ≤ 1048576) := by
  unfold laws_szContainerS.f
  rw [w64 (by omega) (by omega)]
  by_cases c : a < l.length
  · exact ⟨-1, Ev.pos (by omega) (Ev.now _), fun h => by omega⟩
  · have main : ∀ d i : Nat, i + d = l.length → ∀ a : Int, 0 ≤ a → a ≤ 1048576 → ∃ r : Int, Ev (fun k => laws_szContainerS.l0 k l a i) r ∧ (0 ≤ r → ∀ j : Nat, i ≤ j → (h : j < l.length) → l[j].f0.size ≤ 1048576) := by
      intro d
      induction d with
      | zero =>
        intro i hi a h0 h1
        exact ⟨a, Ev.step (fun k => laws_szContainerS.l0.eq_2 ..) (Ev.neg (by omega) (Ev.now _)), fun _ j hj h => by omega⟩
      | succ d ih =>
        intro i hi a h0 h1
        have e : rd_T59 l (i : Int) = l[i]'(by omega) := by
          unfold rd_T59
          rw [Int.toNat_natCast]
          exact getD_of (List.getElem?_eq_getElem (by omega))
        have hxi := hx (l[i]'(by omega)) (List.getElem_mem _)
        have w1 : wrap64 ((i : Int) + 1) = ((i + 1 : Nat) : Int) := by rw [w64 (by omega) (by omega)]; rfl
        have w2 : wrap64 (a - ((l[i]'(by omega)).f0.size : Int)) = a - ((l[i]'(by omega)).f0.size : Int) := w64 (by omega) (by omega)
        have sz : laws_szContainer.f (l[i]'(by omega)).f0 (l[i]'(by omega)).f1 (l[i]'(by omega)).f2 (l[i]'(by omega)).f3 (l[i]'(by omega)).f4 a = some (if a < (l[i]'(by omega)).f0.size then -1 else a - (l[i]'(by omega)).f0.size) := by
          unfold laws_szContainer.f
          rw [w2]
          by_cases q : a < (l[i]'(by omega)).f0.size
          · rw [if_pos (by omega), if_pos q]
          · rw [if_neg (by omega), if_neg q]
        clear w2
        by_cases q : a < (l[i]'(by omega)).f0.size
        · rw [if_pos q] at sz
          refine ⟨-1, Ev.step (fun k => laws_szContainerS.l0.eq_2 ..) (Ev.pos (by omega) (Ev.pos (by omega) ?_)), fun h => by omega⟩
          rw [e]
          exact Ev.const sz (Ev.pos (by omega) (Ev.now _))
        · rw [if_neg q] at sz
          obtain ⟨r, r1, r2⟩ := ih (i + 1) (by omega) (a - (l[i]'(by omega)).f0.size) (by omega) (by omega)
          refine ⟨r, Ev.step (fun k => laws_szContainerS.l0.eq_2 ..) (Ev.pos (by omega) (Ev.pos (by omega) ?_)), fun h j hj hlt => ?_⟩
          · rw [e, w1]
            exact Ev.const sz (Ev.neg (by omega) r1)
          · rcases Nat.lt_or_ge i j with h3 | h3
            · exact r2 h j h3 hlt
            · obtain rfl : j = i := by omega
              omega
    obtain ⟨r, r1, r2⟩ := main l.length 0 (by omega) (a - l.length) (by omega) (by omega)
    refine ⟨r, Ev.neg (by omega) r1, fun h => ⟨by omega, fun x hx' => ?_⟩⟩
    obtain ⟨j, hj, rfl⟩ := List.getElem_of_mem hx'
    exact r2 h j (by omega) hj

def convContainer (x : S59) : S64 := ⟨x.f0, x.f1, x.f2, x.f3, x.f4⟩
theorem toContainerS (l : List S59) (hl : l.length ≤ 1048576) : Ev (fun k => laws_toContainerS.f k l) (l.map convContainer) := by
  unfold laws_toContainerS.f
  refine Ev.pos (by omega) (Ev.pos (by omega) ?_)
  simp only [Int.toNat_natCast]
  refine fill_ev l convContainer z64 (fun k ys i => laws_toContainerS.l0 k l ys i) ?_ ?_
  · intro i h ys hy r hr
    refine Ev.step (fun k => laws_toContainerS.l0.eq_2 ..) (Ev.pos (by omega) (Ev.pos (by omega) ?_))
    refine Ev.const (a := (l[i].f0, l[i].f1, l[i].f2, l[i].f3, l[i].f4)) (by simp [laws_toContainer.f, rd_T59, h]) ?_
    refine Ev.pos (by omega) ?_
    rw [w64 (by omega) (by omega)]
    exact hr
  · intro ys hy
    exact Ev.step (fun k => laws_toContainerS.l0.eq_2 ..) (Ev.neg (by omega) (Ev.now _))
theorem eqContainerS (l : List S64) (hl : l.length ≤ 1048577) : Ev (fun k => laws_eqContainerS.f k l l) true := by
  unfold laws_eqContainerS.f
  refine Ev.pos rfl ?_
  refine down_ev l.length (fun k i => laws_eqContainerS.l0 k l l i) ?_ ?_
  · intro i h hr
    refine Ev.step (fun k => laws_eqContainerS.l0.eq_2 ..) (Ev.pos (by omega) (Ev.pos (by omega) (Ev.pos (by omega) ?_)))
    refine Ev.const (a := true) (by simp [laws_eqContainer.f]) (Ev.pos rfl ?_)
    rw [w64 (by omega) (by omega)]
    exact hr
  · exact Ev.step (fun k => laws_eqContainerS.l0.eq_2 ..) (Ev.neg (by omega) (Ev.now _))

theorem l1In_eq (a b c : Int) : spec_l1In.f a b c = some (decide (b ≤ a ∧ a ≤ c)) := by
  unfold spec_l1In.f
  by_cases h : b ≤ a <;> simp [h]

theorem within_eq (a b c : Int) : impl_within.f a b c = some (decide (b ≤ a ∧ a ≤ c)) := by
  unfold impl_within.f
  by_cases h : b ≤ a <;> simp [h]


def wagonOk (x : S54) : Prop := (1 ≤ x.f0 ∧ x.f0 ≤ 3) ∧ (1 ≤ x.f1 ∧ x.f1 ≤ 100000)
instance (x : S54) : Decidable (wagonOk x) := by unfold wagonOk; infer_instance
def Train (ts : List S54) : Prop := (1 ≤ (ts.length : Int) ∧ (ts.length : Int) ≤ 8) ∧ ∀ j : Nat, j < ts.length → wagonOk (rd_T54 ts j)
theorem notWagon (x : S54) : impl_IsValidTrain_1.f x.f0 x.f1 = some (!decide (wagonOk x)) := by
  unfold impl_IsValidTrain_1.f wagonOk
  rw [within_eq, within_eq]
  by_cases h : 1 ≤ x.f0 ∧ x.f0 ≤ 3
  · simp only [h, Option.bind_some, true_and, and_self, decide_true, if_true]
  · simp only [h, Option.bind_some, false_and, decide_false]
    rfl
theorem trainLoop (ts : List S54) (hl : ts.length ≤ 1048577) : ∀ d i : Nat, i + d = ts.length → ∃ (b : Bool) (q : Int), Ev (fun k => spec_l19Train.l0 k ts i) (b && decide (1 ≤ (ts.length : Int) ∧ (ts.length : Int) ≤ 8)) ∧
    Ev (fun k => slices_IndexFunc_impl_Wagon.l0 k ts ts.length i) q ∧ (!decide (q ≥ 0)) = b ∧ (b = true ↔ ∀ j : Nat, i ≤ j → j < ts.length → wagonOk (rd_T54 ts j)) := by
  intro d
  induction d with
  | zero =>
    intro i hi
    exact ⟨true, -1, Ev.step (fun k => spec_l19Train.l0.eq_2 ..) (Ev.neg (by omega) (Ev.const (l1In_eq _ _ _) (Ev.eq (Ev.now _) (Bool.true_and _).symm))), Ev.step (fun k => slices_IndexFunc_impl_Wagon.l0.eq_2 ..) (Ev.neg (by omega) (Ev.now _)), rfl, ⟨fun _ j h1 h2 => absurd h2 (by omega), fun _ => rfl⟩⟩
  | succ d ih =>
    intro i hi
    have li : (i : Int) < ts.length := by omega
    have l0 : (0 : Int) ≤ i := by omega
    have w1 : wrap64 ((i : Int) + 1) = ((i + 1 : Nat) : Int) := by rw [w64 (by omega) (by omega)]; rfl
    have no := notWagon (rd_T54 ts i)
    by_cases c : wagonOk (rd_T54 ts i)
    · obtain ⟨b, q, h1, h2, h3, h4⟩ := ih (i + 1) (by omega)
      rw [← w1] at h1 h2
      refine ⟨b, q, ?_, ?_, h3, h4.trans ⟨fun h j j1 j2 => ?_, fun h j j1 j2 => h j (by omega) j2⟩⟩
      · exact Ev.step (fun k => spec_l19Train.l0.eq_2 ..) (Ev.pos li (Ev.pos l0 (Ev.const (l1In_eq _ _ _) (Ev.pos (decide_eq_true c.1) (Ev.const (l1In_eq _ _ _) (Ev.pos (decide_eq_true c.2) h1))))))
      · refine Ev.step (fun k => slices_IndexFunc_impl_Wagon.l0.eq_2 ..) (Ev.pos li (Ev.pos l0 (Ev.pos li (Ev.const no (Ev.neg ?_ h2)))))
        rw [decide_eq_true c]
        exact fun h => by cases h
      · rcases Nat.lt_or_ge i j with q | q
        · exact h j q j2
        · obtain rfl : j = i := by omega
          exact c
    · refine ⟨false, i, ?_, ?_, by simp, ⟨fun h => (by cases h), fun h => absurd (h i (Nat.le_refl _) (by omega)) c⟩⟩
      · refine Ev.step (fun k => spec_l19Train.l0.eq_2 ..) (Ev.pos li (Ev.pos l0 (Ev.const (l1In_eq _ _ _) (Ev.ite (fun h1 => Ev.const (l1In_eq _ _ _) (Ev.neg (fun h2 => c ⟨of_decide_eq_true h1, of_decide_eq_true h2⟩) (Ev.now _))) (fun _ => Ev.now _)))))
      · refine Ev.step (fun k => slices_IndexFunc_impl_Wagon.l0.eq_2 ..) (Ev.pos li (Ev.pos l0 (Ev.pos li (Ev.const no (Ev.pos ?_ (Ev.now _))))))
        rw [decide_eq_false c]
        rfl
/-- Both tests of a train. -/
theorem train (ts : List S54) (hl : ts.length ≤ 1048577) : ∃ b : Bool, Ev (fun k => spec_l19Train.f k ts) b ∧ Ev (fun k => impl_IsValidTrain.f k ts) b ∧ (b = true ↔ Train ts) := by
  obtain ⟨b, q, h1, h2, h3, h4⟩ := trainLoop ts hl ts.length 0 (by omega)
  unfold spec_l19Train.f impl_IsValidTrain.f slices_ContainsFunc_impl_Wagon.f slices_IndexFunc_impl_Wagon.f
  by_cases c : 1 ≤ (ts.length : Int) ∧ (ts.length : Int) ≤ 8
  · rw [decide_eq_true c, Bool.and_true] at h1
    exact ⟨b, h1, Ev.const (within_eq _ _ _) (Ev.pos (decide_eq_true c) (Ev.bind (Ev.bind h2 (Ev.now _)) (Ev.eq (Ev.now _) h3))), h4.trans ⟨fun h => ⟨c, fun j hj => h j (by omega) hj⟩, fun h j _ hj => h.2 j hj⟩⟩
  · rw [decide_eq_false c, Bool.and_false] at h1
    exact ⟨false, h1, Ev.const (within_eq _ _ _) (Ev.neg (fun h => c (of_decide_eq_true h)) (Ev.now _)), ⟨fun h => (by cases h), fun h => absurd h.1 c⟩⟩

/-- Byte i of seven is as it should be: a letter, a digit. -/
def okB (s : ByteArray) (i : Nat) : Prop := (i < 3 → 65 ≤ bt s i ∧ bt s i ≤ 90) ∧ (3 ≤ i → 48 ≤ bt s i ∧ bt s i ≤ 57)
theorem bt_bd (s : ByteArray) (i : Int) : 0 ≤ bt s i ∧ bt s i ≤ 255 := by
  unfold bt
  split
  · rename_i h
    have := (s[i.toNat]'h).toNat_lt
    omega
  · omega
theorem letters (s : ByteArray) (hs : s.size = 7) : ∀ d i : Nat, i + d = 7 → ∀ a : Int, 0 ≤ a → a ≤ 1000 * i → ∃ (b : Bool) (c : Int), Ev (fun k => spec_l2Seven.l0 k s i) b ∧ Ev (fun k => impl_checkLetter.l0 k s a 7 i) (if b = true then (c, true) else (0, false)) ∧ (b = true → Ev (fun k => spec_l2Check.l0 k s a i) c) := by
  intro d
  induction d with
  | zero =>
    intro i hi a h0 h1
    obtain rfl : i = 7 := by omega
    have e : Int.tmod a 23 = a % 23 := Int.tmod_eq_emod_of_nonneg h0
    have e1 : wrap64 (65 + a % 23) = 65 + a % 23 := w64 (by omega) (by omega)
    refine ⟨true, (65 + (a % 23) % 256) % 256, Ev.step (fun k => spec_l2Seven.l0.eq_2 ..) (Ev.neg (by omega) (Ev.now _)), Ev.step (fun k => impl_checkLetter.l0.eq_2 ..) (Ev.neg (by omega) (Ev.eq (Ev.now _) ?_)), fun _ => Ev.step (fun k => spec_l2Check.l0.eq_2 ..) (Ev.neg (by omega) (Ev.eq (Ev.now _) ?_))⟩
    · rw [e, e1, if_pos rfl]
      congr 1
      omega
    · rw [e]
  | succ d ih =>
    intro i hi a h0 h1
    have w1 : wrap64 ((i : Int) + 1) = ((i + 1 : Nat) : Int) := by rw [w64 (by omega) (by omega)]; rfl
    have w2 : wrap64 ((i : Int) + 2) = (i : Int) + 2 := w64 (by omega) (by omega)
    have hb := bt_bd s i
    have hsz : (s.size : Int) = 7 := by omega
    generalize hv : bt s i = v at hb
    have w3 : wrap64 v = v := w64 (by omega) (by omega)
    have w4 : wrap64 (v - 65) = v - 65 := w64 (by omega) (by omega)
    have w5 : wrap64 (v - 65 + 1) = v - 65 + 1 := w64 (by omega) (by omega)
    have w6 : wrap64 (v - 48) = v - 48 := w64 (by omega) (by omega)
    by_cases c3 : i < 3
    · by_cases c : 65 ≤ v ∧ v ≤ 90
      · have m1 : (v - 65) % 256 = v - 65 := by omega
        have p1 : 0 ≤ ((i : Int) + 2) * (v - 65 + 1) ∧ ((i : Int) + 2) * (v - 65 + 1) ≤ 26 * ((i : Int) + 2) := by
          have h3 : ((i : Int) + 2) * (v - 65 + 1) ≤ ((i : Int) + 2) * 26 := Int.mul_le_mul_of_nonneg_left (by omega) (by omega)
          exact ⟨Int.mul_nonneg (by omega) (by omega), by omega⟩
        have w7 : wrap64 (((i : Int) + 2) * (v - 65 + 1)) = ((i : Int) + 2) * (v - 65 + 1) := w64 (by omega) (by omega)
        have w8 : wrap64 (a + ((i : Int) + 2) * (v - 65 + 1)) = a + ((i : Int) + 2) * (v - 65 + 1) := w64 (by omega) (by omega)
        obtain ⟨b, cc, s1, s2, s3⟩ := ih (i + 1) (by omega) (a + ((i : Int) + 2) * (v - 65 + 1)) (by omega) (by omega)
        refine ⟨b, cc, Ev.step (fun k => spec_l2Seven.l0.eq_2 ..) ?_, Ev.step (fun k => impl_checkLetter.l0.eq_2 ..) ?_, fun h => Ev.step (fun k => spec_l2Check.l0.eq_2 ..) ?_⟩
        · rw [hv, w1, hsz]
          exact Ev.pos (by omega) (Ev.pos (by omega) (Ev.pos (by omega) (Ev.pos (by omega) (Ev.neg (by omega) (Ev.neg (by omega) (Ev.neg (by omega) s1))))))
        · rw [hv, hsz]
          refine Ev.pos (by omega) (Ev.pos (by omega) (Ev.pos (by omega) (Ev.pos (by omega) (Ev.pos (by omega) ?_))))
          refine Ev.step (fun k => impl_checkLetter.j1.eq_2 ..) (Ev.pos (by simp; omega) ?_)
          rw [w1, w2, m1, w7, w8]
          exact s2
        · rw [hv, hsz]
          refine Ev.pos (by omega) (Ev.pos (by omega) (Ev.pos (by omega) (Ev.pos (by omega) ?_)))
          rw [w1, w2, w3, w4, w5, Int.mul_comm (v - 65 + 1), w7, w8]
          exact s3 h
      · refine ⟨false, 0, Ev.step (fun k => spec_l2Seven.l0.eq_2 ..) ?_, Ev.step (fun k => impl_checkLetter.l0.eq_2 ..) ?_, fun h => by cases h⟩
        · rw [hv, hsz]
          refine Ev.pos (by omega) (Ev.pos (by omega) (Ev.pos (by omega) (Ev.pos (by omega) ?_)))
          exact Ev.ite (fun _ => Ev.now _) (fun q => Ev.pos (by omega) (Ev.now _))
        · rw [hv, hsz]
          refine Ev.pos (by omega) (Ev.pos (by omega) (Ev.pos (by omega) (Ev.pos (by omega) ?_)))
          have jj : Ev (fun k => impl_checkLetter.j1 k s a i v 7 i false) (0, false) := Ev.step (fun k => impl_checkLetter.j1.eq_2 ..) (Ev.neg (by simp) (Ev.neg (by omega) (Ev.now _)))
          refine Ev.ite (fun q => ?_) (fun _ => jj)
          rw [show decide (v ≤ 90) = false from by simp; omega]
          exact jj
    · by_cases c : 48 ≤ v ∧ v ≤ 57
      · have m1 : (v - 48) % 256 = v - 48 := by omega
        have p1 : 0 ≤ ((i : Int) + 2) * (v - 48) ∧ ((i : Int) + 2) * (v - 48) ≤ 9 * ((i : Int) + 2) := by
          have h3 : ((i : Int) + 2) * (v - 48) ≤ ((i : Int) + 2) * 9 := Int.mul_le_mul_of_nonneg_left (by omega) (by omega)
          exact ⟨Int.mul_nonneg (by omega) (by omega), by omega⟩
        have w7 : wrap64 (((i : Int) + 2) * (v - 48)) = ((i : Int) + 2) * (v - 48) := w64 (by omega) (by omega)
        have w8 : wrap64 (a + ((i : Int) + 2) * (v - 48)) = a + ((i : Int) + 2) * (v - 48) := w64 (by omega) (by omega)
        obtain ⟨b, cc, s1, s2, s3⟩ := ih (i + 1) (by omega) (a + ((i : Int) + 2) * (v - 48)) (by omega) (by omega)
        refine ⟨b, cc, Ev.step (fun k => spec_l2Seven.l0.eq_2 ..) ?_, Ev.step (fun k => impl_checkLetter.l0.eq_2 ..) ?_, fun h => Ev.step (fun k => spec_l2Check.l0.eq_2 ..) ?_⟩
        · rw [hv, w1, hsz]
          exact Ev.pos (by omega) (Ev.neg (by omega) (Ev.pos (by omega) (Ev.pos (by omega) (Ev.pos (by omega) (Ev.neg (by omega) (Ev.neg (by omega) s1))))))
        · rw [hv, hsz]
          refine Ev.pos (by omega) (Ev.pos (by omega) (Ev.pos (by omega) (Ev.neg (by omega) ?_)))
          refine Ev.step (fun k => impl_checkLetter.j1.eq_2 ..) (Ev.neg (by simp) (Ev.pos (by omega) (Ev.pos (by omega) (Ev.pos (by omega) ?_))))
          rw [w1, w2, m1, w7, w8]
          exact s2
        · rw [hv, hsz]
          refine Ev.pos (by omega) (Ev.pos (by omega) (Ev.pos (by omega) (Ev.neg (by omega) ?_)))
          rw [w1, w2, w3, w6, Int.mul_comm (v - 48), w7, w8]
          exact s3 h
      · refine ⟨false, 0, Ev.step (fun k => spec_l2Seven.l0.eq_2 ..) ?_, Ev.step (fun k => impl_checkLetter.l0.eq_2 ..) ?_, fun h => by cases h⟩
        · rw [hv, hsz]
          refine Ev.pos (by omega) (Ev.neg (by omega) (Ev.pos (by omega) (Ev.pos (by omega) (Ev.pos (by omega) ?_))))
          exact Ev.ite (fun _ => Ev.now _) (fun q => Ev.pos (by omega) (Ev.now _))
        · rw [hv, hsz]
          refine Ev.pos (by omega) (Ev.pos (by omega) (Ev.pos (by omega) (Ev.neg (by omega) ?_)))
          refine Ev.step (fun k => impl_checkLetter.j1.eq_2 ..) (Ev.neg (by simp) (Ev.pos (by omega) (Ev.ite (fun q => Ev.neg (by omega) (Ev.now _)) (fun _ => Ev.now _))))

/-- Is a text an identifier: the reference's test and the program's. -/
theorem ids (s : ByteArray) : ∃ b : Bool, Ev (fun k => spec_l2Id.f k s) b ∧ Ev (fun k => impl_IsValidId.f k s) b ∧ (b = true → s.size = 8) := by
  unfold spec_l2Id.f impl_IsValidId.f
  by_cases c : (s.size : Int) = 8
  · have hx : (s.extract 0 7).size = 7 := by
      rw [ByteArray.size_extract]
      omega
    obtain ⟨b, l, h1, h2, h3⟩ := letters (s.extract 0 7) hx 7 0 (by omega) 0 (by omega) (by omega)
    have g1 : Ev (fun k => spec_l2Seven.f k (s.extract 0 7)) b := by
      unfold spec_l2Seven.f
      exact Ev.pos (by omega) h1
    have g2 : Ev (fun k => impl_checkLetter.f k (s.extract 0 7)) (if b = true then (l, true) else (0, false)) := by
      unfold impl_checkLetter.f
      rw [show ((s.extract 0 7).size : Int) = 7 by omega]
      exact Ev.pos rfl h2
    cases b with
    | false => exact ⟨false, Ev.pos c (Ev.pos (by omega) (Ev.pos (by omega) (Ev.bind g1 (Ev.neg (by simp) (Ev.now _))))), Ev.pos c (Ev.pos (by omega) (Ev.pos (by omega) (Ev.bind g2 (Ev.neg (by simp) (Ev.now _))))), fun h => by cases h⟩
    | true =>
      refine ⟨bt s 7 == l, Ev.pos c (Ev.pos (by omega) (Ev.pos (by omega) (Ev.bind g1 (Ev.pos rfl (Ev.pos (by omega) (Ev.bind (a := l) ?_ (Ev.now _))))))), Ev.pos c (Ev.pos (by omega) (Ev.pos (by omega) (Ev.bind g2 (Ev.pos rfl (Ev.pos (by omega) (Ev.now _)))))), fun _ => by omega⟩
      unfold spec_l2Check.f
      exact h3 rfl
  · exact ⟨false, Ev.neg c (Ev.now _), Ev.neg c (Ev.now _), fun h => by cases h⟩
/-- Is a text an identifier? -/
noncomputable def isId (s : ByteArray) : Bool := Classical.choose (ids s)
theorem isId_spec (s : ByteArray) : Ev (fun k => spec_l2Id.f k s) (isId s) := (Classical.choose_spec (ids s)).1
theorem isId_impl (s : ByteArray) : Ev (fun k => impl_IsValidId.f k s) (isId s) := (Classical.choose_spec (ids s)).2.1
theorem isId_size (s : ByteArray) (h : isId s = true) : s.size = 8 := (Classical.choose_spec (ids s)).2.2 h

def contOk (x : S64) : Prop := isId x.f0 = true ∧ (1 ≤ x.f1 ∧ x.f1 ≤ 2) ∧ (1 ≤ x.f2 ∧ x.f2 ≤ 32000) ∧ (1 ≤ x.f3 ∧ x.f3 ≤ 3) ∧ (1 ≤ x.f4 ∧ x.f4 ≤ 9)
/-- Both tests of a container. -/
theorem container (x : S64) : ∃ b : Bool, Ev (fun k => spec_l2Good.f k x.f0 x.f1 x.f2 x.f3 x.f4) b ∧ Ev (fun k => impl_IsValidContainer.f k x.f0 x.f1 x.f2 x.f3 x.f4) b ∧ (b = true ↔ contOk x) := by
  unfold spec_l2Good.f impl_IsValidContainer.f contOk
  have hs := isId_spec x.f0
  have hi := isId_impl x.f0
  by_cases c0 : isId x.f0 = true
  · by_cases c1 : 1 ≤ x.f1 ∧ x.f1 ≤ 2
    · by_cases c2 : 1 ≤ x.f2 ∧ x.f2 ≤ 32000
      · by_cases c3 : 1 ≤ x.f3 ∧ x.f3 ≤ 3
        · exact ⟨decide (1 ≤ x.f4 ∧ x.f4 ≤ 9), Ev.bind hs (Ev.pos c0 (Ev.const (l1In_eq _ _ _) (Ev.pos (decide_eq_true c1) (Ev.const (l1In_eq _ _ _) (Ev.pos (decide_eq_true c2) (Ev.const (l1In_eq _ _ _) (Ev.pos (decide_eq_true c3) (Ev.const (l1In_eq _ _ _) (Ev.now _))))))))),
            Ev.bind hi (Ev.pos c0 (Ev.const (within_eq _ _ _) (Ev.pos (decide_eq_true c1) (Ev.const (within_eq _ _ _) (Ev.pos (decide_eq_true c3) (Ev.const (within_eq _ _ _) (Ev.pos (decide_eq_true c2) (Ev.const (within_eq _ _ _) (Ev.now _))))))))), ⟨fun h => ⟨c0, c1, c2, c3, of_decide_eq_true h⟩, fun h => decide_eq_true h.2.2.2.2⟩⟩
        · exact ⟨false, Ev.bind hs (Ev.pos c0 (Ev.const (l1In_eq _ _ _) (Ev.pos (decide_eq_true c1) (Ev.const (l1In_eq _ _ _) (Ev.pos (decide_eq_true c2) (Ev.const (l1In_eq _ _ _) (Ev.neg (fun h => c3 (of_decide_eq_true h)) (Ev.now _)))))))),
            Ev.bind hi (Ev.pos c0 (Ev.const (within_eq _ _ _) (Ev.pos (decide_eq_true c1) (Ev.const (within_eq _ _ _) (Ev.neg (fun h => c3 (of_decide_eq_true h)) (Ev.now _)))))), ⟨fun h => (by cases h), fun h => absurd h.2.2.2.1 c3⟩⟩
      · exact ⟨false, Ev.bind hs (Ev.pos c0 (Ev.const (l1In_eq _ _ _) (Ev.pos (decide_eq_true c1) (Ev.const (l1In_eq _ _ _) (Ev.neg (fun h => c2 (of_decide_eq_true h)) (Ev.now _)))))),
          Ev.bind hi (Ev.pos c0 (Ev.const (within_eq _ _ _) (Ev.pos (decide_eq_true c1) (Ev.const (within_eq _ _ _) (Ev.ite (fun _ => Ev.const (within_eq _ _ _) (Ev.neg (fun h => c2 (of_decide_eq_true h)) (Ev.now _))) (fun _ => Ev.now _)))))), ⟨fun h => (by cases h), fun h => absurd h.2.2.1 c2⟩⟩
    · exact ⟨false, Ev.bind hs (Ev.pos c0 (Ev.const (l1In_eq _ _ _) (Ev.neg (fun h => c1 (of_decide_eq_true h)) (Ev.now _)))), Ev.bind hi (Ev.pos c0 (Ev.const (within_eq _ _ _) (Ev.neg (fun h => c1 (of_decide_eq_true h)) (Ev.now _)))), ⟨fun h => (by cases h), fun h => absurd h.2.1 c1⟩⟩
  · exact ⟨false, Ev.bind hs (Ev.neg c0 (Ev.now _)), Ev.bind hi (Ev.neg c0 (Ev.now _)), ⟨fun h => (by cases h), fun h => absurd h.1 c0⟩⟩
/-- Where the first container with an Id lies: the reference's search. -/
theorem find_spec (xs : List S64) (hl : xs.length ≤ 1048577) (s : ByteArray) : ∀ d i : Nat, i + d = xs.length → ∃ t : Int, Ev (fun k => spec_l2Find.l0 k xs s i) t ∧
    ((t = -1 ∧ ∀ j : Nat, i ≤ j → j < xs.length → (rd_T64 xs j).f0 ≠ s) ∨ ∃ m : Nat, t = m ∧ i ≤ m ∧ m < xs.length ∧ (rd_T64 xs m).f0 = s ∧ ∀ j : Nat, i ≤ j → j < m → (rd_T64 xs j).f0 ≠ s) := by
  intro d
  induction d with
  | zero =>
    intro i hi
    exact ⟨-1, Ev.step (fun k => spec_l2Find.l0.eq_2 ..) (Ev.neg (by omega) (Ev.now _)), .inl ⟨rfl, fun j h1 h2 => absurd h2 (by omega)⟩⟩
  | succ d ih =>
    intro i hi
    have li : (i : Int) < xs.length := by omega
    have i0 : (0 : Int) ≤ i := by omega
    by_cases c : (rd_T64 xs i).f0 = s
    · exact ⟨i, Ev.step (fun k => spec_l2Find.l0.eq_2 ..) (Ev.pos li (Ev.pos i0 (Ev.pos (str_eq.2 c) (Ev.now _)))), .inr ⟨i, rfl, Nat.le_refl _, by omega, c, fun j h1 h2 => absurd h2 (by omega)⟩⟩
    · obtain ⟨t, h1, h2⟩ := ih (i + 1) (by omega)
      have ex : ∀ j : Nat, i ≤ j → (i + 1 ≤ j → (rd_T64 xs j).f0 ≠ s) → (rd_T64 xs j).f0 ≠ s := by
        intro j j1 h
        rcases Nat.lt_or_ge i j with q | q
        · exact h q
        · obtain rfl : j = i := by omega
          exact c
      have w1 : wrap64 ((i : Int) + 1) = ((i + 1 : Nat) : Int) := by rw [w64 (by omega) (by omega)]; rfl
      rw [← w1] at h1
      refine ⟨t, Ev.step (fun k => spec_l2Find.l0.eq_2 ..) (Ev.pos li (Ev.pos i0 (Ev.neg (fun h => c (str_eq.1 h)) h1))), ?_⟩
      rcases h2 with ⟨rfl, h2⟩ | ⟨m, rfl, m1, m2, m3, m4⟩
      · exact .inl ⟨rfl, fun j j1 j2 => ex j j1 (fun q => h2 j q j2)⟩
      · exact .inr ⟨m, rfl, by omega, m2, m3, fun j j1 j2 => ex j j1 (fun q => m4 j q j2)⟩
/-- The program's search: one that the reference's agrees with. -/
theorem find_impl (xs : List S64) (hl : xs.length ≤ 1048577) (s : ByteArray) : ∀ d i : Nat, i + d = xs.length → ∃ t : Int, Ev (fun k => slices_IndexFunc_impl_Container.l0 k xs xs.length i s) t ∧
    ((t = -1 ∧ ∀ j : Nat, i ≤ j → j < xs.length → (rd_T64 xs j).f0 ≠ s) ∨ ∃ m : Nat, t = m ∧ i ≤ m ∧ m < xs.length ∧ (rd_T64 xs m).f0 = s ∧ ∀ j : Nat, i ≤ j → j < m → (rd_T64 xs j).f0 ≠ s) := by
  intro d
  induction d with
  | zero =>
    intro i hi
    exact ⟨-1, Ev.step (fun k => slices_IndexFunc_impl_Container.l0.eq_2 ..) (Ev.neg (by omega) (Ev.now _)), .inl ⟨rfl, fun j h1 h2 => absurd h2 (by omega)⟩⟩
  | succ d ih =>
    intro i hi
    have li : (i : Int) < xs.length := by omega
    have i0 : (0 : Int) ≤ i := by omega
    by_cases c : (rd_T64 xs i).f0 = s
    · refine ⟨i, Ev.step (fun k => slices_IndexFunc_impl_Container.l0.eq_2 ..) (Ev.pos li (Ev.pos i0 (Ev.pos li (Ev.const (a := true) ?_ (Ev.pos rfl (Ev.now _)))))), .inr ⟨i, rfl, Nat.le_refl _, by omega, c, fun j h1 h2 => absurd h2 (by omega)⟩⟩
      unfold impl_indexOf_1.f
      rw [c]
      simp
    · obtain ⟨t, h1, h2⟩ := ih (i + 1) (by omega)
      have ex : ∀ j : Nat, i ≤ j → (i + 1 ≤ j → (rd_T64 xs j).f0 ≠ s) → (rd_T64 xs j).f0 ≠ s := by
        intro j j1 h
        rcases Nat.lt_or_ge i j with q | q
        · exact h q
        · obtain rfl : j = i := by omega
          exact c
      have w1 : wrap64 ((i : Int) + 1) = ((i + 1 : Nat) : Int) := by rw [w64 (by omega) (by omega)]; rfl
      rw [← w1] at h1
      refine ⟨t, Ev.step (fun k => slices_IndexFunc_impl_Container.l0.eq_2 ..) (Ev.pos li (Ev.pos i0 (Ev.pos li (Ev.const (a := false) ?_ (Ev.neg (fun h => by cases h) h1))))), ?_⟩
      · unfold impl_indexOf_1.f
        exact congrArg some (beq_eq_false_iff_ne.2 (fun h => c (str_eq.1 h)))
      rcases h2 with ⟨rfl, h2⟩ | ⟨m, rfl, m1, m2, m3, m4⟩
      · exact .inl ⟨rfl, fun j j1 j2 => ex j j1 (fun q => h2 j q j2)⟩
      · exact .inr ⟨m, rfl, by omega, m2, m3, fun j j1 j2 => ex j j1 (fun q => m4 j q j2)⟩
/-- A list of containers with Ids of their own. -/
def vC (xs : List S64) (i : Nat) : Prop := contOk (rd_T64 xs i) ∧ ∀ j : Nat, j < i → (rd_T64 xs j).f0 ≠ (rd_T64 xs i).f0
def Conts (xs : List S64) : Prop := (xs.length : Int) ≤ 12 ∧ ∀ i : Nat, i < xs.length → vC xs i
theorem rd_take (xs : List S64) (n j : Nat) (h : j < n) : rd_T64 (xs.take n) (j : Int) = rd_T64 xs j := by
  unfold rd_T64
  rw [Int.toNat_natCast, List.getD_eq_getElem?_getD, List.getD_eq_getElem?_getD, List.getElem?_take_of_lt h]
theorem contsSpec (xs : List S64) (hl : xs.length ≤ 1048577) : ∀ d i : Nat, i + d = xs.length → (∀ j : Nat, j < i → vC xs j) → ∃ b : Bool, Ev (fun k => spec_l2List.l0 k xs i) b ∧ (b = true ↔ Conts xs) := by
  intro d
  induction d with
  | zero =>
    intro i hi hv
    refine ⟨decide ((xs.length : Int) ≤ 12), Ev.step (fun k => spec_l2List.l0.eq_2 ..) (Ev.neg (by omega) (Ev.step (fun k => spec_l2List.j1.eq_2 ..) (Ev.neg (by simp) (Ev.now _)))), ?_⟩
    exact ⟨fun h => ⟨of_decide_eq_true h, fun j hj => hv j (by omega)⟩, fun h => decide_eq_true h.1⟩
  | succ d ih =>
    intro i hi hv
    have li : (i : Int) < xs.length := by omega
    have i0 : (0 : Int) ≤ i := by omega
    by_cases c12 : (i : Int) ≤ 12
    · obtain ⟨b, g1, _, g3⟩ := container (rd_T64 xs i)
      obtain ⟨t, t1, t2⟩ := find_spec xs hl (rd_T64 xs i).f0 xs.length 0 (by omega)
      have pre : ∀ r, Ev _ r → Ev (fun k => spec_l2List.l0 k xs i) r := fun r hr => Ev.step (fun k => spec_l2List.l0.eq_2 ..) (Ev.pos li (Ev.step (fun k => spec_l2List.j1.eq_2 ..) (Ev.pos (decide_eq_true c12) (Ev.pos i0 (Ev.pos li (Ev.bind g1 hr))))))
      by_cases cb : b = true
      · by_cases ct : t = i
        · have vi : vC xs i := by
            refine ⟨g3.1 cb, fun j hj => ?_⟩
            rcases t2 with ⟨e, _⟩ | ⟨m, e, _, _, _, m4⟩
            · omega
            · exact m4 j (by omega) (by omega)
          obtain ⟨r, r1, r2⟩ := ih (i + 1) (by omega) (fun j hj => by
            rcases Nat.lt_or_ge j i with q | q
            · exact hv j q
            · obtain rfl : j = i := by omega
              exact vi)
          have w1 : wrap64 ((i : Int) + 1) = ((i + 1 : Nat) : Int) := by rw [w64 (by omega) (by omega)]; rfl
          rw [← w1] at r1
          exact ⟨r, pre r (Ev.pos cb (Ev.bind t1 (Ev.pos ct r1))), r2⟩
        · refine ⟨false, pre _ (Ev.pos cb (Ev.bind t1 (Ev.neg ct (Ev.now _)))), ⟨fun h => (by cases h), fun h => ?_⟩⟩
          exfalso
          have vi := h.2 i (by omega)
          rcases t2 with ⟨_, m4⟩ | ⟨m, rfl, _, _, m3, m4⟩
          · exact m4 i (by omega) (by omega) rfl
          · rcases Nat.lt_or_ge m i with q | q
            · exact vi.2 m q m3
            · rcases Nat.lt_or_ge i m with q' | q'
              · exact m4 i (by omega) q' rfl
              · exact ct (by omega)
      · exact ⟨false, pre _ (Ev.neg cb (Ev.now _)), ⟨fun h => (by cases h), fun h => absurd (g3.2 (h.2 i (by omega)).1) cb⟩⟩
    · refine ⟨false, Ev.step (fun k => spec_l2List.l0.eq_2 ..) (Ev.pos li (Ev.step (fun k => spec_l2List.j1.eq_2 ..) (Ev.neg (fun h => c12 (of_decide_eq_true h)) (Ev.eq (Ev.now _) ?_)))), ⟨fun h => (by cases h), fun h => absurd h.1 (by omega)⟩⟩
      exact decide_eq_false (by omega)
theorem contsImpl (xs : List S64) (hl : xs.length ≤ 1048577) : ∀ d i : Nat, i + d = xs.length → (∀ j : Nat, j < i → vC xs j) → ∃ b : Bool, Ev (fun k => impl_IsValidContainers.l0 k xs xs xs.length i) b ∧ (b = true ↔ Conts xs) := by
  intro d
  induction d with
  | zero =>
    intro i hi hv
    refine ⟨decide ((xs.length : Int) ≤ 12), Ev.step (fun k => impl_IsValidContainers.l0.eq_2 ..) (Ev.neg (by omega) (Ev.now _)), ?_⟩
    exact ⟨fun h => ⟨of_decide_eq_true h, fun j hj => hv j (by omega)⟩, fun h => decide_eq_true h.1⟩
  | succ d ih =>
    intro i hi hv
    have li : (i : Int) < xs.length := by omega
    have i0 : (0 : Int) ≤ i := by omega
    obtain ⟨b, _, g1, g3⟩ := container (rd_T64 xs i)
    have ln : (xs.take i).length = i := by rw [List.length_take]; omega
    obtain ⟨t, t1, t2⟩ := find_impl (xs.take i) (by omega) (rd_T64 xs i).f0 i 0 (by omega)
    have F : Ev (fun k => impl_indexOf.f k (xs.take ((i : Int)).toNat) (rd_T64 xs i).f0) t := by
      unfold impl_indexOf.f slices_IndexFunc_impl_Container.f
      rw [Int.toNat_natCast]
      exact Ev.bind t1 (Ev.now _)
    have pre : ∀ r, Ev _ r → Ev (fun k => impl_IsValidContainers.l0 k xs xs xs.length i) r := fun r hr => Ev.step (fun k => impl_IsValidContainers.l0.eq_2 ..) (Ev.pos li (Ev.pos i0 (Ev.pos li (Ev.bind g1 hr))))
    by_cases cb : b = true
    · by_cases ct : t ≥ 0
      · refine ⟨false, pre _ (Ev.pos cb (Ev.pos (by omega) (Ev.bind F (Ev.pos ct (Ev.now _))))), ⟨fun h => (by cases h), fun h => ?_⟩⟩
        exfalso
        rcases t2 with ⟨e, _⟩ | ⟨m, _, _, m2, m3, _⟩
        · omega
        · rw [rd_take xs i m (by omega)] at m3
          exact (h.2 i (by omega)).2 m (by omega) m3
      · have vi : vC xs i := by
          refine ⟨g3.1 cb, fun j hj => ?_⟩
          rcases t2 with ⟨_, m4⟩ | ⟨m, e, _⟩
          · have := m4 j (by omega) (by omega)
            rwa [rd_take xs i j hj] at this
          · omega
        obtain ⟨r, r1, r2⟩ := ih (i + 1) (by omega) (fun j hj => by
          rcases Nat.lt_or_ge j i with q | q
          · exact hv j q
          · obtain rfl : j = i := by omega
            exact vi)
        have w1 : wrap64 ((i : Int) + 1) = ((i + 1 : Nat) : Int) := by rw [w64 (by omega) (by omega)]; rfl
        rw [← w1] at r1
        exact ⟨r, pre r (Ev.pos cb (Ev.pos (by omega) (Ev.bind F (Ev.neg ct r1)))), r2⟩
    · exact ⟨false, pre _ (Ev.neg cb (Ev.now _)), ⟨fun h => (by cases h), fun h => absurd (g3.2 (h.2 i (by omega)).1) cb⟩⟩
/-- Both tests of a list. -/
theorem conts (xs : List S64) (hl : xs.length ≤ 1048577) : ∃ b : Bool, Ev (fun k => spec_l2List.f k xs) b ∧ Ev (fun k => impl_IsValidContainers.f k xs) b ∧ (b = true ↔ Conts xs) := by
  obtain ⟨b, h1, h2⟩ := contsSpec xs hl xs.length 0 (by omega) (fun j hj => by omega)
  obtain ⟨b', h1', h2'⟩ := contsImpl xs hl xs.length 0 (by omega) (fun j hj => by omega)
  have e : b' = b := by
    cases b <;> cases b' <;> simp_all
  subst e
  exact ⟨_, h1, h1', h2⟩

def sL (xs : List S64) (lo : List Int) (w : Int) : Nat → Int
  | 0 => 0
  | n + 1 => if rd lo n = w then sL xs lo w n + (rd_T64 xs n).f1 else sL xs lo w n
def sW (xs : List S64) (lo : List Int) (w : Int) : Nat → Int
  | 0 => 0
  | n + 1 => if rd lo n = w then sW xs lo w n + (rd_T64 xs n).f2 else sW xs lo w n
/-- The bounds that the sums need. -/
def Small (xs : List S64) : Prop := xs.length ≤ 12 ∧ ∀ i : Nat, i < xs.length → (0 ≤ (rd_T64 xs i).f1 ∧ (rd_T64 xs i).f1 ≤ 2) ∧ (0 ≤ (rd_T64 xs i).f2 ∧ (rd_T64 xs i).f2 ≤ 32000)
theorem small (xs : List S64) (h : Conts xs) : Small xs := ⟨by have := h.1; omega, fun i hi => by
  have := (h.2 i hi).1
  exact ⟨⟨by have := this.2.1.1; omega, this.2.1.2⟩, by have := this.2.2.1.1; omega, this.2.2.1.2⟩⟩
theorem sL_bd (xs : List S64) (hs : Small xs) (lo : List Int) (w : Int) (n : Nat) (hn : n ≤ xs.length) : 0 ≤ sL xs lo w n ∧ sL xs lo w n ≤ 2 * n := by
  induction n with
  | zero => exact ⟨Int.le_refl _, Int.le_refl _⟩
  | succ n ih =>
    have h1 := ih (by omega)
    have h2 := (hs.2 n (by omega)).1
    unfold sL
    generalize sL xs lo w n = a at *
    generalize (rd_T64 xs n).f1 = b at *
    split <;> omega
theorem sW_bd (xs : List S64) (hs : Small xs) (lo : List Int) (w : Int) (n : Nat) (hn : n ≤ xs.length) : 0 ≤ sW xs lo w n ∧ sW xs lo w n ≤ 32000 * n := by
  induction n with
  | zero => exact ⟨Int.le_refl _, Int.le_refl _⟩
  | succ n ih =>
    have h1 := ih (by omega)
    have h2 := (hs.2 n (by omega)).2
    unfold sW
    generalize sW xs lo w n = a at *
    generalize (rd_T64 xs n).f2 = b at *
    split <;> omega
theorem sums (xs : List S64) (hs : Small xs) (lo : List Int) (h : lo.length ≤ xs.length) (w : Int) : Ev (fun k => spec_l19Sums.f k xs lo w) (sL xs lo w lo.length, sW xs lo w lo.length) := by
  unfold spec_l19Sums.f
  have main : ∀ d i : Nat, i + d = lo.length → Ev (fun k => spec_l19Sums.l0 k xs lo w (sL xs lo w i) (sW xs lo w i) i) (sL xs lo w lo.length, sW xs lo w lo.length) := by
    intro d
    induction d with
    | zero =>
      intro i hi
      obtain rfl : i = lo.length := by omega
      exact Ev.step (fun k => spec_l19Sums.l0.eq_2 ..) (Ev.neg (by omega) (Ev.now _))
    | succ d ih =>
      intro i hi
      have li : (i : Int) < lo.length := by omega
      have lx : (i : Int) < xs.length := by omega
      have l12 : xs.length ≤ 12 := hs.1
      have i0 : (0 : Int) ≤ i := by omega
      have w1 : wrap64 ((i : Int) + 1) = ((i + 1 : Nat) : Int) := by rw [w64 (by omega) (by omega)]; rfl
      have h1 := sL_bd xs hs lo w i (by omega)
      have h2 := sW_bd xs hs lo w i (by omega)
      have h3 := hs.2 i (by omega)
      have := ih (i + 1) (by omega)
      refine Ev.step (fun k => spec_l19Sums.l0.eq_2 ..) (Ev.pos li (Ev.pos i0 ?_))
      rw [w1]
      rw [show sL xs lo w (i + 1) = if rd lo i = w then sL xs lo w i + (rd_T64 xs i).f1 else sL xs lo w i from rfl, show sW xs lo w (i + 1) = if rd lo i = w then sW xs lo w i + (rd_T64 xs i).f2 else sW xs lo w i from rfl] at this
      clear w1
      by_cases c : rd lo i = w
      · rw [if_pos c, if_pos c] at this
        refine Ev.pos c (Ev.pos lx ?_)
        generalize sL xs lo w i = a at *
        generalize sW xs lo w i = b at *
        generalize (rd_T64 xs i).f1 = p at *
        generalize (rd_T64 xs i).f2 = q at *
        have e1 : wrap64 (a + p) = a + p := w64 (by omega) (by omega)
        have e2 : wrap64 (b + q) = b + q := w64 (by omega) (by omega)
        rw [e1, e2]
        exact this
      · rw [if_neg c, if_neg c] at this
        exact Ev.neg c this
  exact main lo.length 0 (by omega)
def Fit (ts : List S54) (xs : List S64) (lo : List Int) : Prop := ∀ j : Nat, j < ts.length → sL xs lo j lo.length ≤ (rd_T54 ts j).f0 ∧ sW xs lo j lo.length ≤ (rd_T54 ts j).f1
theorem fits (ts : List S54) (ht : ts.length ≤ 1048577) (xs : List S64) (hs : Small xs) (lo : List Int) (h : lo.length ≤ xs.length) : ∃ b : Bool, Ev (fun k => spec_l19Fits.f k ts xs lo) b ∧ (b = true ↔ Fit ts xs lo) := by
  unfold spec_l19Fits.f
  have main : ∀ d i : Nat, i + d = ts.length → ∃ b : Bool, Ev (fun k => spec_l19Fits.l0 k ts xs lo i) b ∧ (b = true ↔ ∀ j : Nat, i ≤ j → j < ts.length → sL xs lo j lo.length ≤ (rd_T54 ts j).f0 ∧ sW xs lo j lo.length ≤ (rd_T54 ts j).f1) := by
    intro d
    induction d with
    | zero =>
      intro i hi
      exact ⟨true, Ev.step (fun k => spec_l19Fits.l0.eq_2 ..) (Ev.neg (by omega) (Ev.now _)), ⟨fun _ j h1 h2 => absurd h2 (by omega), fun _ => rfl⟩⟩
    | succ d ih =>
      intro i hi
      have li : (i : Int) < ts.length := by omega
      have i0 : (0 : Int) ≤ i := by omega
      have w1 : wrap64 ((i : Int) + 1) = ((i + 1 : Nat) : Int) := by rw [w64 (by omega) (by omega)]; rfl
      obtain ⟨b, h1, h2⟩ := ih (i + 1) (by omega)
      rw [← w1] at h1
      have pre : ∀ r, Ev _ r → Ev (fun k => spec_l19Fits.l0 k ts xs lo i) r := fun r hr => Ev.step (fun k => spec_l19Fits.l0.eq_2 ..) (Ev.pos li (Ev.bind (sums xs hs lo h i) (Ev.pos i0 hr)))
      by_cases c1 : sL xs lo i lo.length ≤ (rd_T54 ts i).f0
      · by_cases c2 : sW xs lo i lo.length ≤ (rd_T54 ts i).f1
        · refine ⟨b, pre _ (Ev.neg (Int.not_lt.2 c1) (Ev.neg (Int.not_lt.2 c2) h1)), h2.trans ⟨fun q j j1 j2 => ?_, fun q j j1 j2 => q j (by omega) j2⟩⟩
          rcases Nat.lt_or_ge i j with g | g
          · exact q j g j2
          · obtain rfl : j = i := by omega
            exact ⟨c1, c2⟩
        · exact ⟨false, pre _ (Ev.neg (Int.not_lt.2 c1) (Ev.pos (Int.not_le.1 c2) (Ev.now _))), ⟨fun q => (by cases q), fun q => absurd (q i (Nat.le_refl _) (by omega)).2 c2⟩⟩
      · exact ⟨false, pre _ (Ev.pos (Int.not_le.1 c1) (Ev.now _)), ⟨fun q => (by cases q), fun q => absurd (q i (Nat.le_refl _) (by omega)).1 c1⟩⟩
  obtain ⟨b, h1, h2⟩ := main ts.length 0 (by omega)
  exact ⟨b, h1, h2.trans ⟨fun q j hj => q j (by omega) hj, fun q j _ hj => q j hj⟩⟩
/-- Places that are wagons of the train, or -1. -/
def On (n : Nat) (lo : List Int) : Prop := ∀ j : Nat, j < lo.length → -1 ≤ rd lo j ∧ rd lo j < (n : Int)
theorem rdset_self (ys : List Int) (w v : Int) (h0 : 0 ≤ w) (h : w < (ys.length : Int)) : rd (ys.set w.toNat v) w = v := by
  unfold rd
  rw [List.getD_eq_getElem?_getD, List.getElem?_set_self (by omega)]
  rfl
theorem rdset_ne (ys : List Int) (w j v : Int) (h0 : 0 ≤ w) (h1 : 0 ≤ j) (h : j ≠ w) : rd (ys.set w.toNat v) j = rd ys j := by
  unfold rd
  rw [List.getD_eq_getElem?_getD, List.getElem?_set_ne (by omega), ← List.getD_eq_getElem?_getD]
theorem rd_rep (n : Nat) (j : Int) : rd (List.replicate n 0) j = 0 := by
  unfold rd
  rw [List.getD_eq_getElem?_getD, List.getElem?_replicate]
  split <;> rfl
theorem usage (ts : List S54) (ht : ts.length ≤ 1048577) (xs : List S64) (hs : Small xs) (lo : List Int) (h : lo.length ≤ xs.length) (ho : On ts.length lo) : ∃ a b : List Int, a.length = ts.length ∧ b.length = ts.length ∧
    (∀ w : Nat, w < ts.length → rd a w = sL xs lo w lo.length ∧ rd b w = sW xs lo w lo.length) ∧ Ev (fun k => impl_usage.f k ts xs lo) (a, b) := by
  have main : ∀ d i : Nat, i + d = lo.length → ∀ p q : List Int, p.length = ts.length → q.length = ts.length → (∀ w : Nat, w < ts.length → rd p w = sL xs lo w i ∧ rd q w = sW xs lo w i) →
      ∃ a b : List Int, a.length = ts.length ∧ b.length = ts.length ∧ (∀ w : Nat, w < ts.length → rd a w = sL xs lo w lo.length ∧ rd b w = sW xs lo w lo.length) ∧ Ev (fun k => impl_usage.l0 k xs p q lo lo.length i) (a, b) := by
    intro d
    induction d with
    | zero =>
      intro i hi p q hp hq hr
      obtain rfl : i = lo.length := by omega
      exact ⟨p, q, hp, hq, hr, Ev.step (fun k => impl_usage.l0.eq_2 ..) (Ev.neg (by omega) (Ev.now _))⟩
    | succ d ih =>
      intro i hi p q hp hq hr
      have li : (i : Int) < lo.length := by omega
      have lx : (i : Int) < xs.length := by omega
      have l12 : xs.length ≤ 12 := hs.1
      have i0 : (0 : Int) ≤ i := by omega
      have w1 : wrap64 ((i : Int) + 1) = ((i + 1 : Nat) : Int) := by rw [w64 (by omega) (by omega)]; rfl
      have hoi := ho i (by omega)
      have pre : ∀ r, Ev _ r → Ev (fun k => impl_usage.l0 k xs p q lo lo.length i) r := fun r hr => Ev.step (fun k => impl_usage.l0.eq_2 ..) (Ev.pos li (Ev.pos i0 (Ev.pos li hr)))
      by_cases c : rd lo i ≥ 0
      · have lp : rd lo i < (p.length : Int) := by rw [hp]; exact hoi.2
        have lq : rd lo i < (q.length : Int) := by rw [hq]; exact hoi.2
        have e : ((rd lo i).toNat : Int) = rd lo i := Int.toNat_of_nonneg c
        have r1 := hr (rd lo i).toNat (by omega)
        rw [e] at r1
        have b1 := sL_bd xs hs lo (rd lo i) i (by omega)
        have b2 := sW_bd xs hs lo (rd lo i) i (by omega)
        have h3 := hs.2 i (by omega)
        have e1 : wrap64 (rd p (rd lo i) + (rd_T64 xs i).f1) = sL xs lo (rd lo i) i + (rd_T64 xs i).f1 := by
          rw [r1.1]
          generalize sL xs lo (rd lo i) i = a at *
          generalize (rd_T64 xs i).f1 = b at *
          exact w64 (by omega) (by omega)
        have e2 : wrap64 (rd q (rd lo i) + (rd_T64 xs i).f2) = sW xs lo (rd lo i) i + (rd_T64 xs i).f2 := by
          rw [r1.2]
          generalize sW xs lo (rd lo i) i = a at *
          generalize (rd_T64 xs i).f2 = b at *
          exact w64 (by omega) (by omega)
        obtain ⟨a, b, a1, a2, a3, a4⟩ := ih (i + 1) (by omega) (p.set (rd lo i).toNat (sL xs lo (rd lo i) i + (rd_T64 xs i).f1)) (q.set (rd lo i).toNat (sW xs lo (rd lo i) i + (rd_T64 xs i).f2)) (by simpa using hp) (by simpa using hq) (fun w hw => by
          have := hr w hw
          rw [show sL xs lo w (i + 1) = if rd lo i = w then sL xs lo w i + (rd_T64 xs i).f1 else sL xs lo w i from rfl, show sW xs lo w (i + 1) = if rd lo i = w then sW xs lo w i + (rd_T64 xs i).f2 else sW xs lo w i from rfl]
          by_cases g : rd lo i = w
          · rw [if_pos g, if_pos g, ← g]
            exact ⟨rdset_self _ _ _ c lp, rdset_self _ _ _ c lq⟩
          · rw [if_neg g, if_neg g, rdset_ne _ _ _ _ c (by omega) (fun h => g h.symm), rdset_ne _ _ _ _ c (by omega) (fun h => g h.symm)]
            exact this)
        rw [← w1, ← e1, ← e2] at a4
        exact ⟨a, b, a1, a2, a3, pre _ (Ev.pos c (Ev.pos c (Ev.pos lp (Ev.pos lx (Ev.pos lq a4)))))⟩
      · obtain ⟨a, b, a1, a2, a3, a4⟩ := ih (i + 1) (by omega) p q hp hq (fun w hw => by
          have := hr w hw
          rw [show sL xs lo w (i + 1) = if rd lo i = w then sL xs lo w i + (rd_T64 xs i).f1 else sL xs lo w i from rfl, show sW xs lo w (i + 1) = if rd lo i = w then sW xs lo w i + (rd_T64 xs i).f2 else sW xs lo w i from rfl]
          have g : ¬ rd lo i = w := by omega
          rw [if_neg g, if_neg g]
          exact this)
        rw [← w1] at a4
        exact ⟨a, b, a1, a2, a3, pre _ (Ev.neg c a4)⟩
  obtain ⟨a, b, a1, a2, a3, a4⟩ := main lo.length 0 (by omega) (List.replicate ts.length 0) (List.replicate ts.length 0) (by simp) (by simp) (fun w _ => ⟨rd_rep _ _, rd_rep _ _⟩)
  refine ⟨a, b, a1, a2, a3, ?_⟩
  unfold impl_usage.f
  refine Ev.pos (by omega) (Ev.pos (by omega) ?_)
  rw [Int.toNat_natCast]
  exact a4
theorem isLoaded (ts : List S54) (ht : ts.length ≤ 1048577) (xs : List S64) (hs : Small xs) (lo : List Int) (h : lo.length ≤ xs.length) (ho : On ts.length lo) : ∃ b : Bool, Ev (fun k => impl_isLoaded.f k ts xs lo) b ∧ (b = true ↔ Fit ts xs lo) := by
  obtain ⟨p, q, hp, hq, hr, hu⟩ := usage ts ht xs hs lo h ho
  have main : ∀ d i : Nat, i + d = ts.length → ∃ b : Bool, Ev (fun k => impl_isLoaded.l0 k p q ts ts.length i) b ∧ (b = true ↔ ∀ j : Nat, i ≤ j → j < ts.length → sL xs lo j lo.length ≤ (rd_T54 ts j).f0 ∧ sW xs lo j lo.length ≤ (rd_T54 ts j).f1) := by
    intro d
    induction d with
    | zero =>
      intro i hi
      exact ⟨true, Ev.step (fun k => impl_isLoaded.l0.eq_2 ..) (Ev.neg (by omega) (Ev.now _)), ⟨fun _ j h1 h2 => absurd h2 (by omega), fun _ => rfl⟩⟩
    | succ d ih =>
      intro i hi
      have li : (i : Int) < ts.length := by omega
      have lp : (i : Int) < p.length := by omega
      have lq : (i : Int) < q.length := by omega
      have i0 : (0 : Int) ≤ i := by omega
      have w1 : wrap64 ((i : Int) + 1) = ((i + 1 : Nat) : Int) := by rw [w64 (by omega) (by omega)]; rfl
      obtain ⟨b, h1, h2⟩ := ih (i + 1) (by omega)
      rw [← w1] at h1
      have e := hr i (by omega)
      have pre : ∀ r, Ev _ r → Ev (fun k => impl_isLoaded.l0 k p q ts ts.length i) r := fun r hr => Ev.step (fun k => impl_isLoaded.l0.eq_2 ..) (Ev.pos li (Ev.pos i0 (Ev.pos li (Ev.pos lp hr))))
      rw [e.1] at pre
      rw [e.2] at pre
      by_cases c1 : sL xs lo i lo.length ≤ (rd_T54 ts i).f0
      · by_cases c2 : sW xs lo i lo.length ≤ (rd_T54 ts i).f1
        · refine ⟨b, pre _ (Ev.neg (Int.not_lt.2 c1) (Ev.pos lq (Ev.neg (Int.not_lt.2 c2) h1))), h2.trans ⟨fun q j j1 j2 => ?_, fun q j j1 j2 => q j (by omega) j2⟩⟩
          rcases Nat.lt_or_ge i j with g | g
          · exact q j g j2
          · obtain rfl : j = i := by omega
            exact ⟨c1, c2⟩
        · exact ⟨false, pre _ (Ev.neg (Int.not_lt.2 c1) (Ev.pos lq (Ev.pos (Int.not_le.1 c2) (Ev.now _)))), ⟨fun q => (by cases q), fun q => absurd (q i (Nat.le_refl _) (by omega)).2 c2⟩⟩
      · exact ⟨false, pre _ (Ev.pos (Int.not_le.1 c1) (Ev.now _)), ⟨fun q => (by cases q), fun q => absurd (q i (Nat.le_refl _) (by omega)).1 c1⟩⟩
  obtain ⟨b, h1, h2⟩ := main ts.length 0 (by omega)
  exact ⟨b, by unfold impl_isLoaded.f; exact Ev.bind hu h1, h2.trans ⟨fun q j hj => q j (by omega) hj, fun q j _ hj => q j hj⟩⟩

theorem rd_app_lt (xs : List Int) (v : Int) (j : Nat) (h : j < xs.length) : rd (xs ++ [v]) j = rd xs j := by
  unfold rd
  rw [Int.toNat_natCast, List.getD_eq_getElem?_getD, List.getElem?_append_left h, ← List.getD_eq_getElem?_getD]
theorem rd_app_at (xs : List Int) (v : Int) : rd (xs ++ [v]) xs.length = v := by
  unfold rd
  rw [Int.toNat_natCast]
  exact getD_of (by simp)
theorem on_app (n : Nat) (xs : List Int) (v : Int) (h : On n xs) (h0 : -1 ≤ v) (h1 : v < (n : Int)) : On n (xs ++ [v]) := by
  intro j hj
  rw [List.length_append] at hj
  rcases Nat.lt_or_ge j xs.length with q | q
  · rw [rd_app_lt xs v j q]
    exact h j q
  · obtain rfl : j = xs.length := by simp at hj; omega
    rw [rd_app_at]
    exact ⟨h0, h1⟩

theorem cntL_app (lo : List Int) (v : Int) : impl_MostContainers.cnt (lo ++ [v]) = impl_MostContainers.cnt lo + (if 0 ≤ v then 1 else 0) := by
  unfold impl_MostContainers.cnt
  rw [List.filter_append, List.length_append]
  by_cases h : 0 ≤ v <;> simp [h]
theorem cntL_le (lo : List Int) : impl_MostContainers.cnt lo ≤ lo.length := List.length_filter_le _ _
theorem sL_app (xs : List S64) (lo : List Int) (v w : Int) (n : Nat) (hn : n ≤ lo.length) : sL xs (lo ++ [v]) w n = sL xs lo w n := by
  induction n with
  | zero => rfl
  | succ n ih =>
    unfold sL
    rw [rd_app_lt lo v n (by omega), ih (by omega)]
theorem sW_app (xs : List S64) (lo : List Int) (v w : Int) (n : Nat) (hn : n ≤ lo.length) : sW xs (lo ++ [v]) w n = sW xs lo w n := by
  induction n with
  | zero => rfl
  | succ n ih =>
    unfold sW
    rw [rd_app_lt lo v n (by omega), ih (by omega)]
theorem sL_sum (xs : List S64) (lo : List Int) (v w : Int) : sL xs (lo ++ [v]) w (lo ++ [v]).length = if v = w then sL xs lo w lo.length + (rd_T64 xs lo.length).f1 else sL xs lo w lo.length := by
  rw [show (lo ++ [v]).length = lo.length + 1 by simp, show sL xs (lo ++ [v]) w (lo.length + 1) = if rd (lo ++ [v]) (lo.length : Nat) = w then sL xs (lo ++ [v]) w lo.length + (rd_T64 xs lo.length).f1 else sL xs (lo ++ [v]) w lo.length from rfl, rd_app_at, sL_app _ _ _ _ _ (Nat.le_refl _)]
theorem sW_sum (xs : List S64) (lo : List Int) (v w : Int) : sW xs (lo ++ [v]) w (lo ++ [v]).length = if v = w then sW xs lo w lo.length + (rd_T64 xs lo.length).f2 else sW xs lo w lo.length := by
  rw [show (lo ++ [v]).length = lo.length + 1 by simp, show sW xs (lo ++ [v]) w (lo.length + 1) = if rd (lo ++ [v]) (lo.length : Nat) = w then sW xs (lo ++ [v]) w lo.length + (rd_T64 xs lo.length).f2 else sW xs (lo ++ [v]) w lo.length from rfl, rd_app_at, sW_app _ _ _ _ _ (Nat.le_refl _)]
theorem fit_minus (ts : List S54) (xs : List S64) (lo : List Int) (h : Fit ts xs lo) : Fit ts xs (lo ++ [-1]) := by
  intro j hj
  have := h j hj
  rw [sL_sum, sW_sum, if_neg (by omega), if_neg (by omega)]
  exact this
theorem fit_back (ts : List S54) (xs : List S64) (hs : Small xs) (lo : List Int) (v : Int) (hl : lo.length < xs.length) (h : Fit ts xs (lo ++ [v])) : Fit ts xs lo := by
  intro j hj
  have := h j hj
  rw [sL_sum, sW_sum] at this
  have b := hs.2 lo.length hl
  by_cases c : v = (j : Int)
  · rw [if_pos c, if_pos c] at this
    omega
  · rw [if_neg c, if_neg c] at this
    exact this
theorem l1Most_eq (a b : Int) : spec_l1Most.f a b = some (max a b) := by
  unfold spec_l1Most.f
  by_cases c : a > b
  · rw [if_pos c, Int.max_eq_left (by omega)]
  · rw [if_neg c, Int.max_eq_right (by omega)]
/-- The program's turn at a whole loading. -/
theorem mostAt (ts : List S54) (ht : ts.length ≤ 1048577) (xs : List S64) (hs : Small xs) (p P : List Int) (hP : P = p.map fun x => wrap64 (x - 1)) (hl : P.length ≤ xs.length) (ho : On ts.length P) (m : Int) :
    (Fit ts xs P → Ev (fun k => impl_MostContainers_1.f k ts xs m p) (max m (impl_MostContainers.cnt P : Int))) ∧ (¬ Fit ts xs P → Ev (fun k => impl_MostContainers_1.f k ts xs m p) m) := by
  obtain ⟨b, b1, b2⟩ := isLoaded ts ht xs hs P hl ho
  unfold impl_MostContainers_1.f
  rw [← hP]
  by_cases c : m < (impl_MostContainers.cnt P : Int)
  · refine ⟨fun h => Ev.pos c (Ev.bind b1 (Ev.eq (Ev.now _) ?_)), fun h => Ev.pos c (Ev.bind b1 (Ev.eq (Ev.now _) ?_))⟩
    · rw [if_pos (b2.2 h), Int.max_eq_right (by omega)]
    · rw [if_neg (fun e => h (b2.1 e))]
  · refine ⟨fun h => Ev.neg c (Ev.eq (Ev.now _) ?_), fun h => Ev.neg c (Ev.now _)⟩
    rw [Int.max_eq_left (by omega)]
theorem mapSnoc (p : List Int) (j : Nat) (hj : j ≤ 1048577) : (p ++ [(j : Int)]).map (fun x => wrap64 (x - 1)) = p.map (fun x => wrap64 (x - 1)) ++ [(j : Int) - 1] := by
  rw [List.map_append, List.map_cons, List.map_nil, w64 (by omega) (by omega)]
/-- The program's search from a beginning, and the reference's. -/
theorem mostBoth (ts : List S54) (ht : ts.length ≤ 1048576) (xs : List S64) (hs : Small xs) : ∀ (d : Nat) (p P : List Int), P.length + d = xs.length → P = (p.map fun x => wrap64 (x - 1)) → On ts.length P →
    (Fit ts xs P → ∃ B : Int, (impl_MostContainers.cnt P : Int) ≤ B ∧ Ev (fun k => spec_l19Most.f k ts xs P (impl_MostContainers.cnt P)) B ∧ ∀ m : Int, Ev (fun k => impl_choices_1.f k ts xs (ts.length + 1) d m p) (max m B)) ∧
    (¬ Fit ts xs P → ∀ m : Int, Ev (fun k => impl_choices_1.f k ts xs (ts.length + 1) d m p) m) := by
  intro d
  have l12 : xs.length ≤ 12 := hs.1
  induction d with
  | zero =>
    intro p P hl hP ho
    refine ⟨fun h => ⟨_, Int.le_refl _, ?_, fun m => (mostAt ts (by omega) xs hs p P hP (by omega) ho m).1 h⟩, fun h m => (mostAt ts (by omega) xs hs p P hP (by omega) ho m).2 h⟩
    exact Ev.step (fun k => spec_l19Most.f.eq_2 ..) (Ev.pos (by omega) (Ev.now _))
  | succ d ih =>
    intro p P hl hP ho
    have cl := cntL_le P
    have st : ∀ j : Nat, j ≤ ts.length → (P ++ [(j : Int) - 1]).length + d = xs.length ∧ P ++ [(j : Int) - 1] = ((p ++ [(j : Int)]).map fun x => wrap64 (x - 1)) ∧ On ts.length (P ++ [(j : Int) - 1]) := fun j hj =>
      ⟨by simp; omega, by rw [mapSnoc p j (by omega), ← hP], on_app _ _ _ ho (by omega) (by omega)⟩
    have own : spec_l1Own.f P = some P := by
      unfold spec_l1Own.f
      show (if (0 + P.length < 17592186044416) then some ([] ++ P) else none) = _
      rw [if_pos (by omega), List.nil_append]
    constructor
    · intro h
      obtain ⟨B0, b0, b1, b2⟩ := (ih (p ++ [((0 : Nat) : Int)]) _ (st 0 (by omega)).1 (st 0 (by omega)).2.1 (st 0 (by omega)).2.2).1 (fit_minus ts xs P h)
      have e0 : ((0 : Nat) : Int) - 1 = -1 := rfl
      rw [e0] at b0 b1
      have c0 : impl_MostContainers.cnt (P ++ [-1]) = impl_MostContainers.cnt P := by rw [cntL_app, if_neg (by omega)]; rfl
      rw [c0] at b0 b1
      have main : ∀ e t : Nat, t + e = ts.length → ∀ best : Int, (impl_MostContainers.cnt P : Int) ≤ best → ∃ B : Int, best ≤ B ∧ Ev (fun k => spec_l19Most.l0 k ts xs P (impl_MostContainers.cnt P) best t) B ∧
          ∀ m : Int, Ev (fun k => impl_choices_1.go (fun j m => impl_choices_1.f k ts xs (ts.length + 1) d m (p ++ [(j : Int)])) e (t + 1) (max m best)) (max m B) := by
        intro e
        induction e with
        | zero =>
          intro t hte best hb
          exact ⟨best, Int.le_refl _, Ev.step (fun k => spec_l19Most.l0.eq_2 ..) (Ev.neg (by omega) (Ev.now _)), fun m => Ev.now _⟩
        | succ e ihe =>
          intro t hte best hb
          have lt : (t : Int) < ts.length := by omega
          have hte2 : t + 1 + e = ts.length := by omega
          have et : ((t + 1 : Nat) : Int) - 1 = (t : Int) := by omega
          have s := st (t + 1) (by omega)
          rw [et] at s
          obtain ⟨b, q1, q2⟩ := fits ts (by omega) xs hs (P ++ [(t : Int)]) (by have := s.1; omega)
          have cn : impl_MostContainers.cnt (P ++ [(t : Int)]) = impl_MostContainers.cnt P + 1 := by rw [cntL_app, if_pos (by omega)]
          have lq : (P.length : Int) < 17592186044416 := by omega
          have lq' : P.length < 17592186044416 := by omega
          have cb : (impl_MostContainers.cnt P : Int) + 1 ≤ 13 := by omega
          have cb0 : -9223372036854775808 ≤ (impl_MostContainers.cnt P : Int) + 1 := by omega
          have ht1 : -9223372036854775808 ≤ (t : Int) + 1 := by omega
          have ht2 : (t : Int) + 1 ≤ 9223372036854775807 := by omega
          have w1 : wrap64 ((t : Int) + 1) = ((t + 1 : Nat) : Int) := by rw [w64 ht1 ht2]; rfl
          have w2 : wrap64 ((impl_MostContainers.cnt P : Int) + 1) = ((impl_MostContainers.cnt P + 1 : Nat) : Int) := by rw [w64 cb0 (Int.le_trans cb (by decide))]; rfl
          have J := ih (p ++ [((t + 1 : Nat) : Int)]) (P ++ [(t : Int)]) s.1 s.2.1 s.2.2
          by_cases f : Fit ts xs (P ++ [(t : Int)])
          · obtain ⟨B1, g0, g1, g2⟩ := J.1 f
            rw [cn] at g0 g1
            obtain ⟨B, r0, r1, r2⟩ := ihe (t + 1) hte2 (max best B1) (Int.le_trans hb (Int.le_max_left _ _))
            rw [← w1] at r1
            rw [← w2] at g1
            refine ⟨B, Int.le_trans (Int.le_max_left _ _) r0, ?_, fun m => ?_⟩
            · exact Ev.step (fun k => spec_l19Most.l0.eq_2 ..) (Ev.pos lt (Ev.const own (Ev.pos lq' (Ev.some (Ev.bind q1 (Ev.pos (q2.2 f) (Ev.bind g1 (Ev.const (l1Most_eq _ _) r1))))))))
            · have := r2 m
              exact Ev.bind (g2 (max m best)) (by rw [Int.max_assoc]; exact this)
          · obtain ⟨B, r0, r1, r2⟩ := ihe (t + 1) hte2 best hb
            rw [← w1] at r1
            refine ⟨B, r0, Ev.step (fun k => spec_l19Most.l0.eq_2 ..) (Ev.pos lt (Ev.const own (Ev.pos lq' (Ev.some (Ev.bind q1 (Ev.neg (fun e => f (q2.1 e)) r1)))))), fun m => ?_⟩
            exact Ev.bind (J.2 f (max m best)) (r2 m)
      obtain ⟨B, r0, r1, r2⟩ := main ts.length 0 (by omega) B0 b0
      refine ⟨B, by omega, Ev.step (fun k => spec_l19Most.f.eq_2 ..) (Ev.neg (by omega) (Ev.const own (Ev.pos (by omega) (Ev.bind b1 r1)))), fun m => ?_⟩
      exact Ev.bind (b2 m) (r2 m)
    · intro h m
      have main : ∀ e t : Nat, t + e = ts.length + 1 → Ev (fun k => impl_choices_1.go (fun j m => impl_choices_1.f k ts xs (ts.length + 1) d m (p ++ [(j : Int)])) e t m) m := by
        intro e
        induction e with
        | zero => exact fun t hte => Ev.now _
        | succ e ihe =>
          intro t hte
          have s := st t (by omega)
          exact Ev.bind ((ih (p ++ [(t : Int)]) (P ++ [(t : Int) - 1]) s.1 s.2.1 s.2.2).2 (fun f => h (fit_back ts xs hs P _ (by omega) f)) m) (ihe (t + 1) (by omega))
      exact main (ts.length + 1) 0 (by omega)

theorem mostContainers (ts : List S54) (ht : ts.length ≤ 1048576) (xs : List S64) (hx : xs.length ≤ 1048577) : ∃ r : Int × Bool, Ev (fun k => spec_MostContainers.f k ts xs) r ∧ Ev (fun k => impl_MostContainers.f k ts xs) r := by
  unfold spec_MostContainers.f impl_MostContainers.f
  obtain ⟨p, p1, p2, p3⟩ := train ts (by omega)
  obtain ⟨q, q1, q2, q3⟩ := conts xs hx
  by_cases cp : p = true
  · by_cases cq : q = true
    · by_cases c7 : (xs.length : Int) > 7
      · exact ⟨(0, false), Ev.bind p1 (Ev.pos cp (Ev.bind q1 (Ev.pos cq (Ev.pos c7 (Ev.now _))))), Ev.bind p2 (Ev.pos cp (Ev.bind q2 (Ev.pos cq (Ev.pos c7 (Ev.now _)))))⟩
      · by_cases c3 : (ts.length : Int) > 3
        · exact ⟨(0, false), Ev.bind p1 (Ev.pos cp (Ev.bind q1 (Ev.pos cq (Ev.neg c7 (Ev.pos c3 (Ev.now _)))))), Ev.bind p2 (Ev.pos cp (Ev.bind q2 (Ev.pos cq (Ev.neg c7 (Ev.pos c3 (Ev.now _))))))⟩
        · have ft : Fit ts xs [] := by
            intro j hj
            obtain ⟨⟨h1, _⟩, ⟨h2, _⟩⟩ := (p3.1 cp).2 j hj
            exact ⟨Int.le_trans (show (0 : Int) ≤ 1 by decide) h1, Int.le_trans (show (0 : Int) ≤ 1 by decide) h2⟩
          obtain ⟨B, b0, b1, b2⟩ := (mostBoth ts ht xs (small xs (q3.1 cq)) xs.length [] [] (by simp) rfl (fun j hj => absurd hj (by simp))).1 ft
          have b3 := b2 0
          rw [Int.max_eq_right (by exact Int.le_trans (Int.natCast_nonneg _) b0)] at b3
          exact ⟨(B, true), Ev.bind p1 (Ev.pos cp (Ev.bind q1 (Ev.pos cq (Ev.neg c7 (Ev.neg c3 (Ev.bind b1 (Ev.now _))))))), Ev.bind p2 (Ev.pos cp (Ev.bind q2 (Ev.pos cq (Ev.neg c7 (Ev.neg c3 (Ev.bind b3 (Ev.now _)))))))⟩
    · exact ⟨(0, false), Ev.bind p1 (Ev.pos cp (Ev.bind q1 (Ev.neg cq (Ev.now _)))), Ev.bind p2 (Ev.pos cp (Ev.bind q2 (Ev.neg cq (Ev.now _))))⟩
  · exact ⟨(0, false), Ev.bind p1 (Ev.neg cp (Ev.now _)), Ev.bind p2 (Ev.neg cp (Ev.now _))⟩
theorem FnExactMostContainers : ∀ (l0 : (List S63)) (l1 : (List S59)), (l0.length ≤ 9223372036854775807 ∧ ∀ x ∈ l0, inv63 x) → (l1.length ≤ 9223372036854775807 ∧ ∀ x ∈ l1, inv59 x) → ∃ k, laws_FnExactMostContainers.f k l0 l1 = some true := by
  intro l0 l1 ⟨hl, _⟩ ⟨hk, hx⟩
  refine Ev.rounds ?_
  unfold laws_FnExactMostContainers.f
  refine Ev.const (szWagonS l0 1048576 (by omega) (by omega) hl) ?_
  by_cases hz : (1048576 : Int) < l0.length
  · exact Ev.pos (by rw [if_pos hz]; omega) (Ev.now _)
  · refine Ev.neg (by rw [if_neg hz]; omega) ?_
    rw [if_neg hz]
    obtain ⟨z, z1, z2⟩ := szContainerS l1 (1048576 - l0.length) (by omega) (by omega) hk (fun x h => (hx x h).1)
    refine Ev.bind z1 ?_
    by_cases hz' : z < 0
    · exact Ev.pos hz' (Ev.now _)
    · refine Ev.neg hz' ?_
      obtain ⟨hn1, _⟩ := z2 (by omega)
      have tv := toWagonS l0 (by omega)
      have tx := toContainerS l1 hn1
      obtain ⟨r, h1, h2⟩ := mostContainers (l0.map convWagon) (by simp; omega) (l1.map convContainer) (by simp; omega)
      have ev := eqWagonS (l0.map convWagon) (by simp; omega)
      have ex := eqContainerS (l1.map convContainer) (by simp; omega)
      refine Ev.bind tv (Ev.bind tx (Ev.bind h1 (Ev.bind tv (Ev.bind tx (Ev.bind h2 (Ev.pos rfl ?_))))))
      exact Ev.step (fun k => laws_FnExactMostContainers.j0.eq_2 ..) (Ev.neg (by simp) (Ev.bind tv (Ev.bind ev (Ev.pos rfl (Ev.bind tx (Ev.bind ex (Ev.pos rfl (Ev.now _))))))))
end Go.Proofs.Ythbibjfnmljpkaa.Pure
