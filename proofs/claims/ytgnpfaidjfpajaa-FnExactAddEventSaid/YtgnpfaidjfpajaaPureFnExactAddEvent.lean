/- The program's AddEvent returns what the reference's returns, for all arguments; the arguments read as they did, and the result is new memory. No condition. -/
import Derived.Test.YtgnpfaidjfpajaaInvFnExactAddEvent
import Derived.Test.YtgnpfaidjfpajaaWHelp
namespace Go.Proofs.Ytgnpfaidjfpajaa.Pure
open Go.RowKit Go.Proofs.YtgnpfaidjfpajaaW.PrintWords Go.Proofs.YtgnpfaidjfpajaaW.PrintLast Go.Proofs.YtgnpfaidjfpajaaW.PrintMore Go.Proofs.YtgnpfaidjfpajaaW.Help Go.Proofs.Ytgnpfaidjfpajaa.PFnExactAddEvent
set_option linter.unusedVariables false

theorem szEventS (l : List S34) (a : Int) (h0 : 0 ≤ a) (h1 : a ≤ 1048576) (hl : l.length ≤ 9223372036854775807) :
    laws_szEventS.f l a = some (if a < l.length then -1 else a - l.length) := by
  unfold laws_szEventS.f
  rw [w64 (by omega) (by omega)]
  by_cases h : a < l.length
  · rw [if_pos (by omega), if_pos h]
  · rw [if_neg (by omega), if_neg h]

def convEvent (x : S34) : S37 := ⟨x.f0, x.f1⟩

theorem toEventS (l : List S34) (hl : l.length ≤ 1048576) : Ev (fun k => laws_toEventS.f k l) (l.map convEvent) := by
  unfold laws_toEventS.f
  refine Ev.pos (by omega) (Ev.pos (by omega) ?_)
  simp only [Int.toNat_natCast]
  refine fill_ev l convEvent z37 (fun k ys i => laws_toEventS.l0 k l ys i) ?_ ?_
  · intro i h ys hy r hr
    refine Ev.step (fun k => laws_toEventS.l0.eq_2 ..) ?_
    refine Ev.pos (by omega) (Ev.pos (by omega) ?_)
    refine Ev.const (a := (l[i].f0, l[i].f1)) (by simp [laws_toEvent.f, rd_T34, h]) ?_
    refine Ev.pos (by omega) ?_
    rw [w64 (by omega) (by omega)]
    exact hr
  · intro ys hy
    refine Ev.step (fun k => laws_toEventS.l0.eq_2 ..) ?_
    exact Ev.neg (by omega) (Ev.now _)

theorem eqEventS (l : List S37) (hl : l.length ≤ 1048577) : Ev (fun k => laws_eqEventS.f k l l) true := by
  unfold laws_eqEventS.f
  refine Ev.pos rfl ?_
  refine down_ev l.length (fun k i => laws_eqEventS.l0 k l l i) ?_ ?_
  · intro i h hr
    refine Ev.step (fun k => laws_eqEventS.l0.eq_2 ..) ?_
    refine Ev.pos (by omega) (Ev.pos (by omega) (Ev.pos (by omega) ?_))
    refine Ev.const (a := true) (by simp [laws_eqEvent.f]) ?_
    refine Ev.pos rfl ?_
    rw [w64 (by omega) (by omega)]
    exact hr
  · refine Ev.step (fun k => laws_eqEventS.l0.eq_2 ..) ?_
    exact Ev.neg (by omega) (Ev.now _)

theorem l1In_eq (a b c : Int) : spec_l1In.f a b c = some (decide (b ≤ a ∧ a ≤ c)) := by
  unfold spec_l1In.f
  by_cases h : b ≤ a <;> simp [h]

theorem within_eq (a b c : Int) : impl_within.f a b c = some (decide (b ≤ a ∧ a ≤ c)) := by
  unfold impl_within.f
  by_cases h : b ≤ a <;> simp [h]

/-- The state after an event. -/
def nx (st kd : Int) : Option Int :=
  if st = 0 then (if kd = 1 ∨ kd = 2 then some 1 else none) else if st = 1 then (if kd = 3 then some 2 else if kd = 5 ∨ kd = 6 then some 0 else none) else if st = 2 then (if kd = 4 then some 1 else none) else none
/-- Both step functions, side by side. -/
theorem next (st kd : Int) : Ev (fun k => spec_l23Next.f k st kd) ((nx st kd).getD (-1)) ∧ Ev (fun k => impl_nextState.f k st kd) ((nx st kd).getD 0, (nx st kd).isSome) ∧ ∀ s, nx st kd = some s → 0 ≤ s := by
  have key : spec_l23Next.f 3 st kd = some ((nx st kd).getD (-1)) ∧ impl_nextState.f 3 st kd = some ((nx st kd).getD 0, (nx st kd).isSome) ∧ ∀ s, nx st kd = some s → 0 ≤ s := by
    have hs : st = 0 ∨ st = 1 ∨ st = 2 ∨ (st ≠ 0 ∧ st ≠ 1 ∧ st ≠ 2) := by omega
    have hk : kd = 1 ∨ kd = 2 ∨ kd = 3 ∨ kd = 4 ∨ kd = 5 ∨ kd = 6 ∨ (kd ≠ 1 ∧ kd ≠ 2 ∧ kd ≠ 3 ∧ kd ≠ 4 ∧ kd ≠ 5 ∧ kd ≠ 6) := by omega
    rcases hs with rfl | rfl | rfl | ⟨s0, s1, s2⟩ <;> rcases hk with rfl | rfl | rfl | rfl | rfl | rfl | ⟨k1, k2, k3, k4, k5, k6⟩ <;>
      simp [nx, spec_l23Next.f, spec_l23Next.j0, spec_l23Next.j1, spec_l23Next.j2, impl_nextState.f, impl_nextState.j0, impl_nextState.j1, impl_nextState.j2, *]
  obtain ⟨h1, h2, h3⟩ := key
  exact ⟨Ev.of (fun k => spec_l23Next.mono _ _ k) h1, Ev.of (fun k => impl_nextState.mono _ _ k) h2, h3⟩
/-- Event i has a day, not before the last one's. -/
def dayOk (xs : List S37) (i : Nat) : Prop := (0 ≤ (rd_T37 xs i).f0 ∧ (rd_T37 xs i).f0 ≤ 9999) ∧ (0 < i → (rd_T37 xs ((i : Int) - 1)).f0 ≤ (rd_T37 xs i).f0)
instance (xs : List S37) (i : Nat) : Decidable (dayOk xs i) := by unfold dayOk; infer_instance
/-- The state after d events from event i on, none if they are no history. -/
def hst (xs : List S37) : Nat → Nat → Int → Option Int
  | 0, _, st => some st
  | d + 1, i, st => if dayOk xs i then (nx st (rd_T37 xs i).f1).bind fun s => hst xs d (i + 1) s else none

theorem states (xs : List S37) (hl : xs.length ≤ 1048577) : ∀ d i : Nat, i + d = xs.length → ∀ st : Int, 0 ≤ st → Ev (fun k => spec_l23State.l0 k xs st i) ((hst xs d i st).getD (-1)) ∧
    (∃ q, Ev (fun k => impl_stateAfter.l0 k xs st xs xs.length i) (q, (hst xs d i st).isSome && decide ((xs.length : Int) ≤ 20)) ∧ ((hst xs d i st).isSome = true → q = (hst xs d i st).getD 0)) ∧ ∀ s, hst xs d i st = some s → 0 ≤ s := by
  intro d
  induction d with
  | zero =>
    intro i hi st hst
    refine ⟨?_, ⟨st, ?_, fun _ => rfl⟩, fun s h => by cases h; exact hst⟩
    · refine Ev.step (fun k => spec_l23State.l0.eq_2 ..) (Ev.neg (by omega) (Ev.now _))
    · refine Ev.step (fun k => impl_stateAfter.l0.eq_2 ..) (Ev.neg (by omega) (Ev.now _))
  | succ d ih =>
    intro i hi st hs0
    have w1 : wrap64 ((i : Int) + 1) = ((i + 1 : Nat) : Int) := by rw [w64 (by omega) (by omega)]; rfl
    obtain ⟨n1, n2, n3⟩ := next st (rd_T37 xs i).f1
    have e : hst xs (d + 1) i st = if dayOk xs i then (nx st (rd_T37 xs i).f1).bind fun s => hst xs d (i + 1) s else none := rfl
    have im : ∀ r, Ev _ r → Ev (fun k => impl_stateAfter.l0 k xs st xs xs.length i) r := fun r hr => Ev.step (fun k => impl_stateAfter.l0.eq_2 ..) (Ev.pos (by omega) (Ev.pos (by omega) (Ev.pos (by omega) (Ev.bind n2 hr))))
    have w2 : 0 < i → wrap64 ((i : Int) - 1) = (i : Int) - 1 := fun h => w64 (by omega) (by omega)
    by_cases c1 : 0 ≤ (rd_T37 xs i).f0 ∧ (rd_T37 xs i).f0 ≤ 9999
    · have sp0 : ∀ r, Ev _ r → Ev (fun k => spec_l23State.l0 k xs st i) r := fun r hr => Ev.step (fun k => spec_l23State.l0.eq_2 ..) (Ev.pos (by omega) (Ev.pos (by omega) (Ev.const (l1In_eq _ _ _) (Ev.pos (by simp [c1]) hr))))
      by_cases c2 : 0 < i → (rd_T37 xs ((i : Int) - 1)).f0 ≤ (rd_T37 xs i).f0
      · rw [if_pos ⟨c1, c2⟩] at e
        have sp : ∀ r, Ev (fun k => spec_l23State.j1 k xs st i false) r → Ev (fun k => spec_l23State.l0 k xs st i) r := by
          intro r hr
          refine sp0 r (Ev.ite (fun hp => ?_) (fun _ => hr))
          rw [w2 (by omega)]
          refine Ev.pos (by omega) (Ev.pos (by omega) ?_)
          have : decide ((rd_T37 xs ((i : Int) - 1)).f0 > (rd_T37 xs i).f0) = false := by
            have := c2 (by omega)
            simp
            omega
          rw [this]
          exact hr
        cases hn : nx st (rd_T37 xs i).f1 with
        | none =>
          rw [hn] at n1 n2 e
          rw [e]
          refine ⟨sp _ ?_, ⟨0, ?_, fun h => by cases h⟩, fun s h => by cases h⟩
          · refine Ev.step (fun k => spec_l23State.j1.eq_2 ..) (Ev.neg (by simp) (Ev.pos (by omega) (Ev.pos (by omega) (Ev.bind n1 (Ev.pos (by simp) (Ev.now _))))))
          · exact Ev.step (fun k => impl_stateAfter.l0.eq_2 ..) (Ev.pos (by omega) (Ev.pos (by omega) (Ev.pos (by omega) (Ev.bind n2 (Ev.neg (by simp) (Ev.now _))))))
        | some s =>
          rw [hn] at n1 n2 e
          have hs := n3 s hn
          obtain ⟨s1, ⟨q, s2, s4⟩, s3⟩ := ih (i + 1) (by omega) s hs
          have e' : hst xs (d + 1) i st = hst xs d (i + 1) s := e
          rw [e']
          refine ⟨sp _ ?_, ⟨q, ?_, s4⟩, s3⟩
          · refine Ev.step (fun k => spec_l23State.j1.eq_2 ..) (Ev.neg (by simp) (Ev.pos (by omega) (Ev.pos (by omega) (Ev.bind n1 (Ev.neg (by simp; omega) ?_)))))
            rw [w1]
            exact s1
          · refine Ev.step (fun k => impl_stateAfter.l0.eq_2 ..) (Ev.pos (by omega) (Ev.pos (by omega) (Ev.pos (by omega) (Ev.bind n2 (Ev.pos (by simp) (Ev.const (within_eq _ _ _) (Ev.pos (by simp [c1]) ?_)))))))
            rw [w1]
            refine Ev.ite (fun hp => ?_) (fun _ => s2)
            rw [w2 (by omega)]
            have := c2 (by omega)
            exact Ev.pos (by omega) (Ev.pos (by omega) (Ev.neg (by omega) s2))
      · rw [if_neg (fun h => c2 h.2)] at e
        rw [e]
        have hi0 : 0 < i := by
          rcases Nat.eq_zero_or_pos i with h | h
          · exact absurd (fun h' => by omega) c2
          · exact h
        have c3 : (rd_T37 xs i).f0 < (rd_T37 xs ((i : Int) - 1)).f0 := by
          rcases Int.lt_or_le (rd_T37 xs i).f0 (rd_T37 xs ((i : Int) - 1)).f0 with h | h
          · exact h
          · exact absurd (fun _ => h) c2
        refine ⟨?_, ⟨0, ?_, fun h => by cases h⟩, fun s h => by cases h⟩
        · refine sp0 _ (Ev.pos (by omega) ?_)
          rw [w2 hi0]
          refine Ev.pos (by omega) (Ev.pos (by omega) ?_)
          refine Ev.step (fun k => spec_l23State.j1.eq_2 ..) (Ev.pos (by simp; exact c3) (Ev.now _))
        · refine im _ (Ev.ite (fun _ => Ev.const (within_eq _ _ _) (Ev.pos (by simp [c1]) (Ev.pos (by omega) ?_))) (fun _ => Ev.now _))
          rw [w2 hi0]
          exact Ev.pos (by omega) (Ev.pos (by omega) (Ev.pos c3 (Ev.now _)))
    · rw [if_neg (fun h => c1 h.1)] at e
      rw [e]
      refine ⟨?_, ⟨0, ?_, fun h => by cases h⟩, fun s h => by cases h⟩
      · refine Ev.step (fun k => spec_l23State.l0.eq_2 ..) (Ev.pos (by omega) (Ev.pos (by omega) (Ev.const (l1In_eq _ _ _) (Ev.neg (by simp; omega) ?_))))
        exact Ev.step (fun k => spec_l23State.j1.eq_2 ..) (Ev.pos rfl (Ev.now _))
      · refine im _ ?_
        exact Ev.ite (fun _ => Ev.const (within_eq _ _ _) (Ev.neg (by simp; omega) (Ev.now _))) (fun _ => Ev.now _)

/-- The state after all events, none if they are no history. -/
def hist (xs : List S37) : Option Int := if xs.length ≤ 20 then hst xs xs.length 0 0 else none
/-- The reference's and the program's. -/
theorem after (xs : List S37) (hl : xs.length ≤ 1048577) : Ev (fun k => spec_l23State.f k xs) ((hist xs).getD (-1)) ∧ (∃ q, Ev (fun k => impl_stateAfter.f k xs) (q, (hist xs).isSome) ∧ ((hist xs).isSome = true → q = (hist xs).getD 0)) ∧ ∀ s, hist xs = some s → 0 ≤ s := by
  obtain ⟨h1, ⟨q, h2, h4⟩, h3⟩ := states xs hl xs.length 0 (by omega) 0 (by omega)
  unfold hist
  by_cases c : xs.length ≤ 20
  · rw [if_pos c]
    have c' : (xs.length : Int) ≤ 20 := by omega
    refine ⟨?_, ⟨q, Ev.eq h2 (by simp [c']), h4⟩, h3⟩
    unfold spec_l23State.f
    exact Ev.neg (by omega) h1
  · rw [if_neg c]
    have c' : ¬ ((xs.length : Int) ≤ 20) := by omega
    refine ⟨?_, ⟨q, Ev.eq h2 (by simp [c']), by simp⟩, fun s h => by cases h⟩
    unfold spec_l23State.f
    exact Ev.pos (by omega) (Ev.now _)

theorem markEventS (l : List S37) (hl : l.length ≤ 1048577) (a : Int) (h0 : 0 ≤ a) (h1 : a ≤ 1000000000) : ∃ ys : List S37, Ev (fun k => laws_markEventS.f k l a) (a + 2 * l.length, ys) ∧ Ev (fun k => laws_heldEventS.f k ys a) (a + 2 * l.length) := by
  unfold laws_markEventS.f laws_heldEventS.f
  -- behind i rounds: the first i are marked
  have main : ∀ d i : Nat, i + d = l.length → ∀ ys : List S37, ys.length = l.length → (∀ j, j < i → rd_T37 ys j = (⟨a + 2 * j, a + 2 * j + 1⟩ : S37)) →
      ∃ zs : List S37, zs.length = l.length ∧ (∀ j, j < l.length → rd_T37 zs j = (⟨a + 2 * j, a + 2 * j + 1⟩ : S37)) ∧ Ev (fun k => laws_markEventS.l0 k ys (a + 2 * i) i) (a + 2 * l.length, zs) := by
    intro d
    induction d with
    | zero =>
      intro i hi ys hy hm
      obtain rfl : i = l.length := by omega
      exact ⟨ys, hy, hm, Ev.step (fun k => laws_markEventS.l0.eq_2 ..) (Ev.neg (by omega) (Ev.now _))⟩
    | succ d ih =>
      intro i hi ys hy hm
      obtain ⟨zs, z1, z2, z3⟩ := ih (i + 1) (by omega) (ys.set i (⟨a + 2 * i, a + 2 * i + 1⟩ : S37)) (by simpa using hy) (fun j hj => by
        unfold rd_T37
        rw [Int.toNat_natCast]
        rcases Nat.lt_or_ge j i with h | h
        · have := hm j h
          unfold rd_T37 at this
          rw [Int.toNat_natCast] at this
          rw [List.getD_eq_getElem?_getD, List.getElem?_set_ne (by omega), ← List.getD_eq_getElem?_getD]
          exact this
        · obtain rfl : j = i := by omega
          rw [List.getD_eq_getElem?_getD, List.getElem?_set_self (by omega)]
          rfl)
      refine ⟨zs, z1, z2, Ev.step (fun k => laws_markEventS.l0.eq_2 ..) (Ev.pos (by omega) (Ev.pos (by omega) (Ev.some ?_)))⟩
      have e1 : wrap64 (a + 2 * i + 1) = a + 2 * i + 1 := w64 (by omega) (by omega)
      have e2 : wrap64 (a + 2 * i + 1 + 1) = a + 2 * ((i + 1 : Nat) : Int) := by rw [w64 (by omega) (by omega)]; omega
      have e3 : wrap64 ((i : Int) + 1) = ((i + 1 : Nat) : Int) := by rw [w64 (by omega) (by omega)]; rfl
      have e4 : (ys.set ((i : Int)).toNat (⟨a + 2 * i, (rd_T37 ys i).f1⟩ : S37)).set ((i : Int)).toNat (⟨(rd_T37 (ys.set ((i : Int)).toNat (⟨a + 2 * i, (rd_T37 ys i).f1⟩ : S37)) i).f0, a + 2 * i + 1⟩ : S37) = ys.set i (⟨a + 2 * i, a + 2 * i + 1⟩ : S37) := by
        have : (rd_T37 (ys.set ((i : Int)).toNat (⟨a + 2 * i, (rd_T37 ys i).f1⟩ : S37)) i).f0 = a + 2 * i := by
          unfold rd_T37
          rw [Int.toNat_natCast, List.getD_eq_getElem?_getD, List.getElem?_set_self (by omega)]
          rfl
        rw [this, Int.toNat_natCast, List.set_set]
      rw [e1, e2, e3, e4]
      exact z3
  obtain ⟨zs, z1, z2, z3⟩ := main l.length 0 (by omega) l rfl (fun j hj => by omega)
  refine ⟨zs, by simpa using z3, ?_⟩
  have held : ∀ d i : Nat, i + d = l.length → Ev (fun k => laws_heldEventS.l0 k zs (a + 2 * i) i) (a + 2 * l.length) := by
    intro d
    induction d with
    | zero =>
      intro i hi
      obtain rfl : i = l.length := by omega
      exact Ev.step (fun k => laws_heldEventS.l0.eq_2 ..) (Ev.neg (by omega) (Ev.now _))
    | succ d ih =>
      intro i hi
      have := ih (i + 1) (by omega)
      have e1 : wrap64 (a + 2 * i + 1) = a + 2 * i + 1 := w64 (by omega) (by omega)
      have e2 : wrap64 (a + 2 * i + 1 + 1) = a + 2 * ((i + 1 : Nat) : Int) := by rw [w64 (by omega) (by omega)]; omega
      have e3 : wrap64 ((i : Int) + 1) = ((i + 1 : Nat) : Int) := by rw [w64 (by omega) (by omega)]; rfl
      refine Ev.step (fun k => laws_heldEventS.l0.eq_2 ..) (Ev.pos (by omega) (Ev.pos (by omega) ?_))
      rw [z2 i (by omega), e1, e2, e3]
      exact Ev.pos rfl (Ev.pos rfl this)
  simpa using held l.length 0 (by omega)

theorem rd_snoc (xs : List S37) (e : S37) (j : Int) (h : j.toNat < xs.length) : rd_T37 (xs ++ [e]) j = rd_T37 xs j := by
  unfold rd_T37
  rw [List.getD_eq_getElem?_getD, List.getD_eq_getElem?_getD, List.getElem?_append_left h]
theorem hst_snoc (xs : List S37) (e : S37) : ∀ d i : Nat, i + d ≤ xs.length → ∀ st : Int, hst xs d i st = none → ∀ d', d ≤ d' → hst (xs ++ [e]) d' i st = none := by
  intro d
  induction d with
  | zero => intro i _ st h; cases h
  | succ d ih =>
    intro i hi st h d' hd
    obtain ⟨d', rfl⟩ : ∃ m, d' = m + 1 := ⟨d' - 1, by omega⟩
    have h1 : rd_T37 (xs ++ [e]) (i : Int) = rd_T37 xs i := rd_snoc xs e i (by omega)
    have hd1 : dayOk (xs ++ [e]) i ↔ dayOk xs i := by
      unfold dayOk
      rw [h1, rd_snoc xs e ((i : Int) - 1) (by omega)]
    unfold hst at h ⊢
    rw [h1]
    by_cases c : dayOk xs i
    · rw [if_pos c] at h
      rw [if_pos (hd1.2 c)]
      cases hn : nx st (rd_T37 xs i).f1 with
      | none => rfl
      | some s =>
        rw [hn] at h
        exact ih (i + 1) (by omega) s h d' (by omega)
    · rw [if_neg (fun q => c (hd1.1 q))]
theorem hist_snoc (xs : List S37) (e : S37) (h : hist xs = none) : hist (xs ++ [e]) = none := by
  unfold hist at h ⊢
  by_cases c : (xs ++ [e]).length ≤ 20
  · rw [if_pos c]
    rw [if_pos (by simp at c; omega)] at h
    exact hst_snoc xs e xs.length 0 (by omega) 0 h _ (by simp)
  · rw [if_neg c]

theorem both (xs : List S37) (hl : xs.length ≤ 1048576) (a b : Int) : ∃ r : List S37 × Bool, Ev (fun k => spec_AddEvent.f k xs a b) r ∧ Ev (fun k => impl_AddEvent.f k xs a b) r ∧ r.1.length ≤ 1048577 := by
  obtain ⟨h1, _, h3⟩ := after xs (by omega)
  obtain ⟨g1, ⟨q, g2, g4⟩, g3⟩ := after (xs ++ [(⟨a, b⟩ : S37)]) (by simp; omega)
  have hs := hist_snoc xs ⟨a, b⟩
  unfold spec_AddEvent.f impl_AddEvent.f slices_Clone_impl_Event.f impl_IsHistory.f
  cases hx : hist (xs ++ [(⟨a, b⟩ : S37)]) with
  | none =>
    rw [hx] at g1 g2
    refine ⟨([], false), Ev.some (Ev.pos (by simp; omega) (Ev.some (Ev.some (Ev.pos (by simp; omega) (Ev.some (Ev.bind h1 ?_)))))), Ev.const (a := xs) (by simp; omega) (Ev.some (Ev.pos (by simp; omega) (Ev.some (Ev.bind (Ev.bind g2 (Ev.now _)) (Ev.neg (by simp) (Ev.now _)))))), by simp⟩
    refine Ev.ite (fun _ => Ev.now _) (fun _ => Ev.bind (by simpa using g1) (Ev.pos (by simp) (Ev.now _)))
  | some s =>
    rw [hx] at g1 g2
    have := g3 s hx
    refine ⟨(xs ++ [(⟨a, b⟩ : S37)], true), Ev.some (Ev.pos (by simp; omega) (Ev.some (Ev.some (Ev.pos (by simp; omega) (Ev.some (Ev.bind h1 ?_)))))), Ev.const (a := xs) (by simp; omega) (Ev.some (Ev.pos (by simp; omega) (Ev.some (Ev.bind (Ev.bind g2 (Ev.now _)) (Ev.pos (by simp) (Ev.now _)))))), by simp; omega⟩
    refine Ev.neg ?_ (Ev.bind (by simpa using g1) (Ev.neg (by simp; omega) (Ev.eq (Ev.now _) (by simp))))
    cases hy : hist xs with
    | none => rw [hs hy] at hx; cases hx
    | some s' => have := h3 s' hy; simp; omega

theorem FnExactAddEvent : ∀ (l0 : (List S34)) (y1 : S34), (l0.length ≤ 9223372036854775807 ∧ ∀ x ∈ l0, inv34 x) → inv34 y1 → ∃ k, laws_FnExactAddEvent.f k l0 y1.f0 y1.f1 = some true := by
  intro l0 y1 ⟨hl, _⟩ _
  refine Ev.rounds ?_
  unfold laws_FnExactAddEvent.f
  refine Ev.const (szEventS l0 1048576 (by omega) (by omega) hl) ?_
  by_cases hz : (1048576 : Int) < l0.length
  · exact Ev.pos (by rw [if_pos hz]; omega) (Ev.now _)
  · refine Ev.neg (by rw [if_neg hz]; omega) ?_
    have hn : l0.length ≤ 1048576 := by omega
    obtain ⟨r, h1, h2, h3⟩ := both (l0.map convEvent) (by simpa using hn) y1.f0 y1.f1
    have tv := toEventS l0 hn
    have ar := eqEventS (l0.map convEvent) (by simp; omega)
    have er := eqEventS r.1 (by omega)
    obtain ⟨m1, m2, _⟩ := markEventS (l0.map convEvent) (by simp; omega) 1 (by omega) (by omega)
    obtain ⟨n1, n2, n3⟩ := markEventS r.1 (by omega) 1 (by omega) (by omega)
    refine Ev.bind tv (Ev.const (a := (y1.f0, y1.f1)) rfl (Ev.bind h1 (Ev.bind tv (Ev.const (a := (y1.f0, y1.f1)) rfl (Ev.bind h2 (Ev.bind er (Ev.pos rfl ?_)))))))
    refine Ev.step (fun k => laws_FnExactAddEvent.j0.eq_2 ..) (Ev.neg (by simp) (Ev.bind tv (Ev.bind ar (Ev.pos rfl (Ev.bind m2 (Ev.neg (by simp; omega) (Ev.bind er (Ev.pos rfl ?_))))))))
    refine Ev.step (fun k => laws_FnExactAddEvent.j1.eq_2 ..) (Ev.neg (by simp) (Ev.bind n2 (Ev.bind n3 (Ev.neg (by omega) (Ev.pos rfl (Ev.bind tv (Ev.const (a := (y1.f0, y1.f1)) rfl (Ev.bind h2 (Ev.bind er (Ev.pos rfl ?_))))))))))
    exact Ev.step (fun k => laws_FnExactAddEvent.j2.eq_2 ..) (Ev.neg (by simp) (Ev.bind n3 (Ev.neg (by omega) (Ev.pos rfl (Ev.now _)))))
end Go.Proofs.Ytgnpfaidjfpajaa.Pure
