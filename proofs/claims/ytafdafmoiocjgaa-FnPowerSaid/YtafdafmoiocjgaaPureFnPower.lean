/- The drawn readings: hours without power are not more than all hours, the mean is between the extremes, and not more containers have power than there are logs. No condition. -/
import Derived.Test.YtafdafmoiocjgaaInvFnPower
import Derived.Test.YtafdafmoiocjgaaWHelp
import Derived.Lib.Zigzag
namespace Go.Proofs.Ytafdafmoiocjgaa.Pure
open Go.RowKit Go.Proofs.YtafdafmoiocjgaaW.PrintWords Go.Proofs.YtafdafmoiocjgaaW.PrintLast Go.Proofs.YtafdafmoiocjgaaW.PrintMore Go.Proofs.YtafdafmoiocjgaaW.Help Go.Proofs.Ytafdafmoiocjgaa.PFnPower
set_option linter.unusedVariables false

/-- From some number of rounds on there is a value, and it is as told. -/
def Has {α : Type} (g : Nat → Option α) (Q : α → Prop) : Prop := ∃ r, Ev g r ∧ Q r
theorem Has.bind {α β : Type} {g : Nat → Option α} {f : Nat → α → Option β} {P : α → Prop} {Q : β → Prop} (h : Has g P) (k : ∀ a, P a → Has (fun n => f n a) Q) : Has (fun n => (g n).bind (f n)) Q := by
  obtain ⟨a, h1, h2⟩ := h
  obtain ⟨r, r1, r2⟩ := k a h2
  exact ⟨r, Ev.bind h1 r1, r2⟩
theorem Has.pos {α : Type} {c : Prop} [Decidable c] {A B : Nat → Option α} {Q : α → Prop} (h : c) (k : Has A Q) : Has (fun n => if c then A n else B n) Q := by
  obtain ⟨r, r1, r2⟩ := k
  exact ⟨r, Ev.pos h r1, r2⟩
theorem Has.neg {α : Type} {c : Prop} [Decidable c] {A B : Nat → Option α} {Q : α → Prop} (h : ¬ c) (k : Has B Q) : Has (fun n => if c then A n else B n) Q := by
  obtain ⟨r, r1, r2⟩ := k
  exact ⟨r, Ev.neg h r1, r2⟩
theorem Has.ite {α : Type} {c : Prop} [Decidable c] {A B : Nat → Option α} {Q : α → Prop} (h1 : c → Has A Q) (h2 : ¬ c → Has B Q) : Has (fun n => if c then A n else B n) Q := by
  by_cases h : c
  · exact Has.pos h (h1 h)
  · exact Has.neg h (h2 h)
theorem Has.now {α : Type} {a : α} {Q : α → Prop} (h : Q a) : Has (fun _ => some a) Q := ⟨a, Ev.now _, h⟩
theorem Has.step {α : Type} {g s : Nat → Option α} {Q : α → Prop} (e : ∀ k, g (k + 1) = s k) (h : Has s Q) : Has g Q := by
  obtain ⟨r, r1, r2⟩ := h
  exact ⟨r, Ev.step e r1, r2⟩
theorem Has.mono {α : Type} {g : Nat → Option α} {P Q : α → Prop} (h : Has g P) (k : ∀ a, P a → Q a) : Has g Q := by
  obtain ⟨r, r1, r2⟩ := h
  exact ⟨r, r1, k r r2⟩
theorem Has.val {α β : Type} {a : α} {f : Nat → α → Option β} {Q : β → Prop} (k : Has (fun n => f n a) Q) : Has (fun n => (some a).bind (f n)) Q := k
theorem Has.const {α β : Type} {o : Option α} {f : Nat → α → Option β} {a : α} {Q : β → Prop} (h : o = some a) (k : Has (fun n => f n a) Q) : Has (fun n => o.bind (f n)) Q := by
  obtain ⟨r, r1, r2⟩ := k
  exact ⟨r, Ev.const h r1, r2⟩
theorem Has.of {α : Type} {g : Nat → Option α} {r : α} {Q : α → Prop} (h : Ev g r) (k : Q r) : Has g Q := ⟨r, h, k⟩
theorem Has.ev {α β : Type} {g : Nat → Option α} {f : Nat → α → Option β} {a : α} {Q : β → Prop} (h : Ev g a) (k : Has (fun n => f n a) Q) : Has (fun n => (g n).bind (f n)) Q := by
  obtain ⟨r, r1, r2⟩ := k
  exact ⟨r, Ev.bind h r1, r2⟩

/-- The drawing's bytes. -/
def Bytes (c : List Int) : Prop := ∀ x ∈ c, 0 ≤ x ∧ x ≤ 255
theorem bytes_wf {c : List Int} (h : ∀ x ∈ c, (Lit.int .u8 x).wf = true) : Bytes c := fun x hx => by
  have := h x hx
  simp [Lit.wf, IntKind.min, IntKind.max, IntKind.signed, IntKind.bits] at this
  omega
theorem byte_of (y : Int) : 0 ≤ y % 2 ^ 8 ∧ y % 2 ^ 8 ≤ 255 := by omega
theorem byte_w (z : Int) (h : 0 ≤ z ∧ z ≤ 255) : 0 ≤ wrap64 z ∧ wrap64 z ≤ 255 := by
  rw [w64 (by omega) (by omega)]
  exact h
theorem high_of (s : Int) : 0 ≤ IntKind.u64.wrap s / 1099511627776 ∧ IntKind.u64.wrap s / 1099511627776 < 2 ^ 64 := by
  rw [IntKind.wrap_u64]
  omega
theorem low_byte (s : Int) : 0 ≤ wrap64 (Go.bits .and .u64 (IntKind.u64.wrap s / 1099511627776) 255) ∧ wrap64 (Go.bits .and .u64 (IntKind.u64.wrap s / 1099511627776) 255) ≤ 255 := by
  have h0 := high_of s
  generalize IntKind.u64.wrap s / 1099511627776 = y at h0 ⊢
  have e : Go.bits .and .u64 y 255 = y % 2 ^ 8 := bits_mask .u64 64 (by decide) Go.wraps_u64 8 (by decide) y h0.1 h0.2
  rw [e]
  exact byte_w _ (byte_of _)
theorem next_some (c : List Int) (hc : Bytes c) (a s : Int) (h0 : 0 ≤ a) (h1 : a ≤ 4611686018427387904) : ∃ x t, spec_l1Cur_next.f c a s = some (x, a + 1, t) ∧ 0 ≤ x ∧ x ≤ 255 := by
  unfold spec_l1Cur_next.f
  rw [show wrap64 (a + 1) = a + 1 from w64 (by omega) (by omega)]
  by_cases q : a < (c.length : Int)
  · have e : 0 ≤ rd c a ∧ rd c a ≤ 255 := by
      unfold rd
      rw [getD_of (List.getElem?_eq_getElem (by omega))]
      exact hc _ (List.getElem_mem _)
    rw [if_pos q, if_pos h0, if_pos (by omega), w64 (by omega) (by omega)]
    exact ⟨_, _, rfl, e⟩
  · rw [if_neg q, if_neg (by omega)]
    exact ⟨_, _, rfl, low_byte _⟩
/-- A drawn number: the number itself and how far the drawing is. -/
def Dr (n a : Int) (r : Int × Int × Int) : Prop := 0 ≤ r.1 ∧ (1 < n → r.1 < n) ∧ (n ≤ 1 → r.1 = 0) ∧ a ≤ r.2.1 ∧ r.2.1 ≤ a + 2
theorem pick_some (c : List Int) (hc : Bytes c) (a s n : Int) (h0 : 0 ≤ a) (h1 : a ≤ 2305843009213693952) : ∃ r, spec_l1Cur_pick.f c a s n = some r ∧ Dr n a r := by
  unfold spec_l1Cur_pick.f
  by_cases q : n ≤ 1
  · rw [if_pos q]
    exact ⟨_, rfl, by simp [Dr]; omega⟩
  · rw [if_neg q]
    obtain ⟨x, t, e, x0, x1⟩ := next_some c hc a s h0 (by omega)
    rw [e]
    simp only [Option.bind_some]
    by_cases q2 : n > 200
    · rw [if_pos q2]
      obtain ⟨y, u, e2, y0, y1⟩ := next_some c hc (a + 1) t (by omega) (by omega)
      rw [e2]
      simp only [Option.bind_some]
      rw [if_neg (by omega), show wrap64 (x * 256) = x * 256 from w64 (by omega) (by omega), show wrap64 (x * 256 + y) = x * 256 + y from w64 (by omega) (by omega), Int.tmod_eq_emod_of_nonneg (by omega)]
      have m0 := Int.emod_nonneg (x * 256 + y) (show n ≠ 0 by omega)
      have m1 := Int.emod_lt_of_pos (x * 256 + y) (show 0 < n by omega)
      exact ⟨_, rfl, by simp only [Dr]; omega⟩
    · rw [if_neg q2, if_neg (by omega), Int.tmod_eq_emod_of_nonneg (by omega)]
      have m0 := Int.emod_nonneg x (show n ≠ 0 by omega)
      have m1 := Int.emod_lt_of_pos x (show 0 < n by omega)
      exact ⟨_, rfl, by simp only [Dr]; omega⟩
theorem pick {c : List Int} (hc : Bytes c) {a : Int} (s n : Int) (h0 : 0 ≤ a) (h1 : a ≤ 2305843009213693952) : Has (fun _ => spec_l1Cur_pick.f c a s n) (Dr n a) := by
  obtain ⟨r, e, d⟩ := pick_some c hc a s n h0 h1
  exact ⟨r, Ev.nor e, d⟩
/-- How far a drawing is behind at most m numbers. -/
def Far {α : Type} (m a : Int) (r : α × Int × Int) : Prop := a ≤ r.2.1 ∧ r.2.1 ≤ a + m
theorem among {c : List Int} (hc : Bytes c) {a : Int} (s : Int) (l : List Int) (hl : l ≠ []) (h0 : 0 ≤ a) (h1 : a ≤ 2305843009213693952) : Has (fun _ => spec_l1Cur_among.f c a s l) (fun r => r.1 ∈ l ∧ a ≤ r.2.1 ∧ r.2.1 ≤ a + 2) := by
  have hn : 0 < l.length := List.length_pos_iff.2 hl
  unfold spec_l1Cur_among.f
  refine Has.bind (pick hc s _ h0 h1) fun r ⟨r0, r1, r2, r3, r4⟩ => ?_
  have r5 : r.1 < (l.length : Int) := by
    rcases Int.lt_or_le 1 (l.length : Int) with h | h
    · exact r1 h
    · have := r2 h
      omega
  refine Has.pos r0 (Has.pos r5 (Has.now ⟨?_, r3, r4⟩))
  unfold rd
  rw [getD_of (List.getElem?_eq_getElem (by omega))]
  exact List.getElem_mem _
theorem one {c : List Int} (hc : Bytes c) {a : Int} (s n : Int) (h0 : 0 ≤ a) (h1 : a ≤ 2305843009213693952) : Has (fun _ => spec_l1Cur_one.f c a s n) (fun r => a ≤ r.2.1 ∧ r.2.1 ≤ a + 2) := by
  unfold spec_l1Cur_one.f
  exact Has.bind (pick hc s n h0 h1) fun r ⟨_, _, _, r3, r4⟩ => Has.now ⟨r3, r4⟩
/-- A number of the first ones of a list. -/
theorem amongCut {β : Type} {c : List Int} (hc : Bytes c) {a : Int} (s : Int) (l : List Int) (b : Int) (hb : 1 ≤ b) (hl : b + 2 ≤ (l.length : Int)) (hm : (l.length : Int) ≤ 1000) (h0 : 0 ≤ a) (h1 : a ≤ 1152921504606846976) {K : Nat → Int × Int × Int → Option β} {Q : β → Prop}
    (k : ∀ r : Int × Int × Int, r.1 ∈ l → a ≤ r.2.1 → r.2.1 ≤ a + 4 → Has (fun n => K n r) Q) :
    Has (fun n => (spec_l1Cur_pick.f c a s 24).bind fun bt => (if 0 ≤ (wrap64 (b + (wrap64 (Int.tdiv bt.1 11)))) then (if (wrap64 (b + (wrap64 (Int.tdiv bt.1 11)))) ≤ (l.length : Int) then ((spec_l1Cur_among.f c bt.2.1 bt.2.2 (l.take ((wrap64 (b + (wrap64 (Int.tdiv bt.1 11)))) : Int).toNat)).bind (K n)) else (none)) else (none))) Q := by
  refine Has.bind (pick hc s 24 h0 (by omega)) fun r ⟨r0, r1, _, r3, r4⟩ => ?_
  have r5 := r1 (by omega)
  have e : wrap64 (b + wrap64 (Int.tdiv r.1 11)) = b + r.1 / 11 := by
    rw [Int.tdiv_eq_ediv_of_nonneg r0, w64 (x := r.1 / 11) (by omega) (by omega), w64 (by omega) (by omega)]
  rw [e]
  refine Has.pos (by omega) (Has.pos (by omega) ?_)
  refine Has.bind (among hc (a := r.2.1) r.2.2 _ ?_ (by omega) (by omega)) fun q ⟨q0, q1, q2⟩ => k q (List.mem_of_mem_take q0) (by omega) (by omega)
  intro h
  have h2 := congrArg List.length h
  rw [List.length_take, List.length_nil] at h2
  omega

theorem draw_more {c : List Int} (hc : Bytes c) (x6 : Int) (h6 : 0 ≤ x6) (y : Int) (z : Int) (p : Bool) : ∀ (d : Nat) (xs : List S31) (a s : Int), 22 ≤ xs.length + d → x6 < xs.length → xs.length ≤ 30 → 0 ≤ a → a ≤ 1152921504606846976 - 2 * d →
    Has (fun k => spec_l1Cur_readings.l1 k xs x6 c a s y z p) (fun r => r.1.length ≤ 30 ∧ a ≤ r.2.1 ∧ r.2.1 ≤ a + 2 * d + 2) := by
  intro d
  induction d with
  | zero =>
    intro xs a s hl hx h30 h0 h1
    refine Has.step (fun k => spec_l1Cur_readings.l1.eq_2 ..) (Has.bind (pick hc s 2 h0 (by omega)) fun r ⟨r0, r1, _, r3, r4⟩ => ?_)
    have r5 := r1 (by omega)
    rw [w64 (by omega) (by omega)]
    exact Has.neg (by omega) (Has.pos h6 (Has.pos hx (Has.now ⟨by simpa using h30, by simp only; omega, by simp only; omega⟩)))
  | succ d ih =>
    intro xs a s hl hx h30 h0 h1
    refine Has.step (fun k => spec_l1Cur_readings.l1.eq_2 ..) (Has.bind (pick hc s 2 h0 (by omega)) fun r ⟨r0, r1, _, r3, r4⟩ => ?_)
    have r5 := r1 (by omega)
    rw [w64 (x := 20 + r.1) (by omega) (by omega)]
    by_cases q : (xs.length : Int) < 20 + r.1
    · refine Has.pos q (Has.pos (by omega) (Has.mono (ih _ r.2.1 r.2.2 (by simp; omega) (by simp; omega) (by simp; omega) (by omega) (by omega)) fun b hb => ⟨hb.1, by omega, by omega⟩))
    · exact Has.neg q (Has.pos h6 (Has.pos hx (Has.now ⟨by simpa using h30, by simp only; omega, by simp only; omega⟩)))

theorem draw_log_at {c : List Int} (hc : Bytes c) : ∀ (n : Nat) (xs : List S31) (hour a s : Int), xs.length + n ≤ 8 → 0 ≤ a → a ≤ 1000000000000000000 - 6 * n →
    Has (fun k => spec_l1Cur_readings.l0 k xs hour n c a s) (fun r => r.1.length ≤ 30 ∧ a ≤ r.2.1 ∧ r.2.1 ≤ a + 6 * n + 60) := by
  intro n
  induction n with
  | zero =>
    intro xs hour a s hl h0 h1
    refine Has.step (fun k => spec_l1Cur_readings.l0.eq_2 ..) (Has.neg (by omega) ?_)
    by_cases q : (xs.length : Int) = 0
    · exact Has.pos q (Has.now ⟨by simp only; omega, by simp only; omega, by simp only; omega⟩)
    · refine Has.neg q (Has.bind (pick hc s _ h0 (by omega)) fun i ⟨i0, i1, i2, i3, i4⟩ => ?_)
      have i5 : i.1 < (xs.length : Int) := by
        rcases Int.lt_or_le 1 (xs.length : Int) with h | h
        · exact i1 h
        · have := i2 h
          omega
      refine Has.pos i0 (Has.pos i5 (Has.bind (pick hc i.2.2 40 (by omega) (by omega)) fun r ⟨r0, r1, _, r3, r4⟩ => ?_))
      refine Has.ite (fun _ => ?_) (fun _ => Has.ite (fun _ => ?_) (fun _ => Has.ite (fun _ => ?_) (fun _ => ?_)))
      · exact Has.bind (among hc r.2.2 _ (by simp) (by omega) (by omega)) fun q q1 => Has.now ⟨by simp only [List.length_set]; omega, by simp only; omega, by simp only; omega⟩
      · exact Has.bind (among hc r.2.2 _ (by simp) (by omega) (by omega)) fun q q1 => Has.now ⟨by simp only [List.length_set]; omega, by simp only; omega, by simp only; omega⟩
      · exact Has.mono (draw_more hc i.1 i0 _ _ _ 22 xs r.2.1 r.2.2 (by omega) i5 (by omega) (by omega) (by omega)) fun b hb => ⟨hb.1, by omega, by omega⟩
      · exact Has.now ⟨by simp only [List.length_set]; omega, by simp only; omega, by simp only; omega⟩
  | succ n ih =>
    intro xs hour a s hl h0 h1
    have w1 : wrap64 (((n + 1 : Nat) : Int) - 1) = (n : Int) := by rw [w64 (by omega) (by omega)]; omega
    refine Has.step (fun k => spec_l1Cur_readings.l0.eq_2 ..) (Has.pos (by omega) ?_)
    rw [w1]
    refine Has.bind (among hc s _ (by simp) h0 (by omega)) fun q ⟨_, q1, q2⟩ => ?_
    refine Has.bind (one hc q.2.2 3 (by omega) (by omega)) fun u ⟨u1, u2⟩ => ?_
    refine Has.pos (by omega) (Has.bind (pick hc u.2.2 6 (by omega) (by omega)) fun r ⟨r0, r1, _, r3, r4⟩ => ?_)
    exact Has.mono (ih _ _ r.2.1 r.2.2 (by simp; omega) (by omega) (by omega)) fun b hb => ⟨hb.1, by omega, by omega⟩

theorem draw_log {c : List Int} (hc : Bytes c) {a : Int} (s : Int) (h0 : 0 ≤ a) (h1 : a ≤ 100000000000000000) : Has (fun k => spec_l1Cur_readings.f k c a s) (fun r => r.1.length ≤ 30 ∧ a ≤ r.2.1 ∧ r.2.1 ≤ a + 200) := by
  unfold spec_l1Cur_readings.f
  refine Has.bind (pick hc s 6 h0 (by omega)) fun q ⟨q0, q1, _, q3, q4⟩ => ?_
  refine Has.bind (pick hc q.2.2 8 (by omega) (by omega)) fun r ⟨r0, r1, _, r3, r4⟩ => ?_
  have r5 := r1 (by omega)
  have e : r.1 = ((r.1.toNat : Nat) : Int) := by omega
  rw [e]
  exact Has.mono (draw_log_at hc r.1.toNat [] _ r.2.1 r.2.2 (by simp; omega) (by omega) (by omega)) fun b hb => ⟨hb.1, by omega, by omega⟩

theorem draw_plug_end {c : List Int} (hc : Bytes c) (xs : List (List S31)) (h30 : xs.length ≤ 30) (hx : ∀ x ∈ xs, x.length ≤ 30) (a s : Int) (h0 : 0 ≤ a) (h1 : a ≤ 1152921504606846976) :
    Has (fun n => (some (([0, 3, 6, 10, 15, 240, (-1), 241] : List Int) : List Int)).bind fun y => ((spec_l1Cur_pick.f c a s 24).bind fun bt => (if 0 ≤ (wrap64 (6 + (wrap64 (Int.tdiv bt.1 11)))) then (if (wrap64 (6 + (wrap64 (Int.tdiv bt.1 11)))) ≤ (y.length : Int) then ((spec_l1Cur_among.f c bt.2.1 bt.2.2 (y.take ((wrap64 (6 + (wrap64 (Int.tdiv bt.1 11)))) : Int).toNat)).bind fun q => (some (xs, q.1))) else (none)) else (none))))
      (fun r => r.1.length ≤ 30 ∧ ∀ x ∈ r.1, x.length ≤ 30) :=
  Has.val (amongCut hc s _ 6 (by omega) (by simp) (by simp) h0 h1 fun r _ _ _ => Has.now ⟨h30, hx⟩)
theorem draw_plug_more {c : List Int} (hc : Bytes c) : ∀ (d : Nat) (xs : List (List S31)) (a s : Int), 12 ≤ xs.length + d → xs.length ≤ 30 → (∀ x ∈ xs, x.length ≤ 30) → 0 ≤ a → a ≤ 1000000000000000000 - 2 * d →
    Has (fun k => spec_DrawPlugHours.l1 k xs c a s) (fun r => r.1.length ≤ 30 ∧ ∀ x ∈ r.1, x.length ≤ 30) := by
  intro d
  induction d with
  | zero =>
    intro xs a s hl h30 hx h0 h1
    refine Has.step (fun k => spec_DrawPlugHours.l1.eq_2 ..) (Has.bind (pick hc s 2 h0 (by omega)) fun r ⟨r0, r1, _, r3, r4⟩ => ?_)
    have r5 := r1 (by omega)
    rw [w64 (x := 10 + r.1) (by omega) (by omega)]
    exact Has.neg (by omega) (draw_plug_end hc xs h30 hx _ _ (by omega) (by omega))
  | succ d ih =>
    intro xs a s hl h30 hx h0 h1
    refine Has.step (fun k => spec_DrawPlugHours.l1.eq_2 ..) (Has.bind (pick hc s 2 h0 (by omega)) fun r ⟨r0, r1, _, r3, r4⟩ => ?_)
    have r5 := r1 (by omega)
    rw [w64 (x := 10 + r.1) (by omega) (by omega)]
    by_cases q : (xs.length : Int) < 10 + r.1
    · refine Has.pos q (Has.pos (by omega) (ih _ r.2.1 r.2.2 (by simp; omega) (by simp; omega) ?_ (by omega) (by omega)))
      intro x h
      rcases List.mem_append.1 h with h | h
      · exact hx x h
      · rw [List.mem_singleton.1 h]
        simp
    · exact Has.neg q (draw_plug_end hc xs h30 hx _ _ (by omega) (by omega))
theorem draw_plug_at {c : List Int} (hc : Bytes c) : ∀ (n : Nat) (xs : List (List S31)) (a s : Int), xs.length + n ≤ 8 → (∀ x ∈ xs, x.length ≤ 30) → 0 ≤ a → a ≤ 10000000000000000 - 200 * n →
    Has (fun k => spec_DrawPlugHours.l0 k xs n c a s) (fun r => r.1.length ≤ 30 ∧ ∀ x ∈ r.1, x.length ≤ 30) := by
  intro n
  induction n with
  | zero =>
    intro xs a s hl hx h0 h1
    refine Has.step (fun k => spec_DrawPlugHours.l0.eq_2 ..) (Has.neg (by omega) (Has.bind (one hc s 40 h0 (by omega)) fun u ⟨u1, u2⟩ => ?_))
    refine Has.ite (fun _ => ?_) (fun _ => ?_)
    · exact draw_plug_more hc 12 xs _ _ (by omega) (by omega) hx (by omega) (by omega)
    · exact draw_plug_end hc xs (by omega) hx _ _ (by omega) (by omega)
  | succ n ih =>
    intro xs a s hl hx h0 h1
    have w1 : wrap64 (((n + 1 : Nat) : Int) - 1) = (n : Int) := by rw [w64 (by omega) (by omega)]; omega
    refine Has.step (fun k => spec_DrawPlugHours.l0.eq_2 ..) (Has.pos (by omega) ?_)
    rw [w1]
    refine Has.bind (draw_log hc s h0 (by omega)) fun q ⟨q0, q1, q2⟩ => Has.pos (by omega) (ih _ q.2.1 q.2.2 (by simp; omega) ?_ (by omega) (by omega))
    intro x h
    rcases List.mem_append.1 h with h | h
    · exact hx x h
    · rw [List.mem_singleton.1 h]
      exact q0
theorem draw_plug {c : List Int} (hc : Bytes c) : Has (fun k => spec_DrawPlugHours.f k c) (fun r => r.1.length ≤ 30 ∧ ∀ x ∈ r.1, x.length ≤ 30) := by
  unfold spec_DrawPlugHours.f
  refine Has.bind (pick hc 0 5 (by omega) (by omega)) fun r ⟨r0, r1, _, r3, r4⟩ => ?_
  have r5 := r1 (by omega)
  have e : r.1 = ((r.1.toNat : Nat) : Int) := by omega
  rw [e]
  exact draw_plug_at hc r.1.toNat [] r.2.1 r.2.2 (by simp; omega) (fun x h => by simp at h) (by omega) (by omega)

theorem l1In_eq (a b c : Int) : spec_l1In.f a b c = some (decide (b ≤ a ∧ a ≤ c)) := by
  unfold spec_l1In.f
  by_cases h : b ≤ a <;> simp [h]

theorem within_eq (a b c : Int) : impl_within.f a b c = some (decide (b ≤ a ∧ a ≤ c)) := by
  unfold impl_within.f
  by_cases h : b ≤ a <;> simp [h]

/-- Reading i of a log is as it should be. -/
def vR (xs : List S31) (i : Nat) : Prop := (0 ≤ (rd_T31 xs i).f0 ∧ (rd_T31 xs i).f0 ≤ 240) ∧ (-400 ≤ (rd_T31 xs i).f1 ∧ (rd_T31 xs i).f1 ≤ 400) ∧ (0 < i → (rd_T31 xs ((i : Int) - 1)).f0 < (rd_T31 xs i).f0)
/-- A valid log. -/
def Log (xs : List S31) : Prop := xs.length ≤ 20 ∧ ∀ i, i < xs.length → vR xs i

theorem readings_at (xs : List S31) (hl : xs.length ≤ 1048576) : ∀ d i : Nat, i + d = xs.length → ∃ b : Bool, Ev (fun k => spec_l21Good.l0 k xs i) b ∧ Ev (fun k => impl_IsValidReadings.l0 k xs xs xs.length i) b ∧
    (b = true ↔ xs.length ≤ 20 ∧ ∀ j, i ≤ j → j < xs.length → vR xs j) := by
  intro d
  induction d with
  | zero =>
    intro i hi
    refine ⟨decide ((xs.length : Int) ≤ 20), Ev.step (fun k => spec_l21Good.l0.eq_2 ..) (Ev.neg (by omega) (Ev.now _)), Ev.step (fun k => impl_IsValidReadings.l0.eq_2 ..) (Ev.neg (by omega) (Ev.now _)), ?_⟩
    rw [decide_eq_true_iff]
    exact ⟨fun h => ⟨by omega, fun j h1 h2 => by omega⟩, fun h => by omega⟩
  | succ d ih =>
    intro i hi
    have w1 : wrap64 ((i : Int) + 1) = ((i + 1 : Nat) : Int) := by rw [w64 (by omega) (by omega)]; rfl
    obtain ⟨b, s1, s2, s3⟩ := ih (i + 1) (by omega)
    have sp : ∀ r, Ev _ r → Ev (fun k => spec_l21Good.l0 k xs i) r := fun r hr => Ev.step (fun k => spec_l21Good.l0.eq_2 ..) (Ev.pos (by omega) (Ev.pos (by omega) (Ev.const (l1In_eq _ _ _) hr)))
    have im : ∀ r, Ev _ r → Ev (fun k => impl_IsValidReadings.l0 k xs xs xs.length i) r := fun r hr => Ev.step (fun k => impl_IsValidReadings.l0.eq_2 ..) (Ev.pos (by omega) (Ev.pos (by omega) (Ev.pos (by omega) (Ev.const (within_eq _ _ _) hr))))
    rw [w1] at sp im
    have no : ∀ h : ¬ vR xs i, ((false : Bool) = true ↔ xs.length ≤ 20 ∧ ∀ j, i ≤ j → j < xs.length → vR xs j) := fun h => ⟨(fun q => by cases q), fun h' => absurd (h'.2 i (by omega) (by omega)) h⟩
    by_cases c1 : 0 ≤ (rd_T31 xs i).f0 ∧ (rd_T31 xs i).f0 ≤ 240
    · by_cases c2 : -400 ≤ (rd_T31 xs i).f1 ∧ (rd_T31 xs i).f1 ≤ 400
      · by_cases c3 : (i : Int) > 0
        · have w2 : wrap64 ((i : Int) - 1) = (i : Int) - 1 := w64 (by omega) (by omega)
          rw [w2] at sp im
          by_cases c4 : (rd_T31 xs i).f0 ≤ (rd_T31 xs ((i : Int) - 1)).f0
          · exact ⟨false, sp _ (Ev.pos (by simp [c1]) (Ev.const (l1In_eq _ _ _) (Ev.pos (by simp [c2]) (Ev.pos c3 (Ev.pos (by omega) (Ev.pos (by omega) (Ev.pos c4 (Ev.now _)))))))),
              im _ (Ev.pos (by simp [c1]) (Ev.const (within_eq _ _ _) (Ev.pos (by simp [c2]) (Ev.pos c3 (Ev.pos (by omega) (Ev.pos (by omega) (Ev.pos c4 (Ev.now _)))))))), no (fun h => by have := h.2.2 (by omega); omega)⟩
          · refine ⟨b, sp _ (Ev.pos (by simp [c1]) (Ev.const (l1In_eq _ _ _) (Ev.pos (by simp [c2]) (Ev.pos c3 (Ev.pos (by omega) (Ev.pos (by omega) (Ev.neg (by omega) s1))))))),
              im _ (Ev.pos (by simp [c1]) (Ev.const (within_eq _ _ _) (Ev.pos (by simp [c2]) (Ev.pos c3 (Ev.pos (by omega) (Ev.pos (by omega) (Ev.neg (by omega) s2))))))), ?_⟩
            rw [s3]
            refine ⟨fun h => ⟨h.1, fun j h1 h2 => ?_⟩, fun h => ⟨h.1, fun j h1 h2 => h.2 j (by omega) h2⟩⟩
            rcases Nat.lt_or_ge i j with hj | hj
            · exact h.2 j hj h2
            · obtain rfl : j = i := by omega
              exact ⟨c1, c2, fun _ => by omega⟩
        · refine ⟨b, sp _ (Ev.pos (by simp [c1]) (Ev.const (l1In_eq _ _ _) (Ev.pos (by simp [c2]) (Ev.neg c3 s1)))), im _ (Ev.pos (by simp [c1]) (Ev.const (within_eq _ _ _) (Ev.pos (by simp [c2]) (Ev.neg c3 s2)))), ?_⟩
          rw [s3]
          refine ⟨fun h => ⟨h.1, fun j h1 h2 => ?_⟩, fun h => ⟨h.1, fun j h1 h2 => h.2 j (by omega) h2⟩⟩
          rcases Nat.lt_or_ge i j with hj | hj
          · exact h.2 j hj h2
          · obtain rfl : j = i := by omega
            exact ⟨c1, c2, fun _ => by omega⟩
      · exact ⟨false, sp _ (Ev.pos (by simp [c1]) (Ev.const (l1In_eq _ _ _) (Ev.neg (by simp; omega) (Ev.now _)))), im _ (Ev.pos (by simp [c1]) (Ev.const (within_eq _ _ _) (Ev.neg (by simp; omega) (Ev.now _)))), no (fun h => c2 h.2.1)⟩
    · exact ⟨false, sp _ (Ev.neg (by simp; omega) (Ev.now _)), im _ (Ev.neg (by simp; omega) (Ev.now _)), no (fun h => c1 h.1)⟩

theorem readings (xs : List S31) (hl : xs.length ≤ 1048576) : ∃ b : Bool, Ev (fun k => spec_l21Good.f k xs) b ∧ Ev (fun k => impl_IsValidReadings.f k xs) b ∧ (b = true ↔ Log xs) := by
  obtain ⟨b, h1, h2, h3⟩ := readings_at xs hl xs.length 0 (by omega)
  exact ⟨b, h1, h2, h3.trans ⟨fun h => ⟨h.1, fun i hi => h.2 i (by omega) hi⟩, fun h => ⟨h.1, fun j _ hj => h.2 j hj⟩⟩⟩

theorem off_at (xs : List S31) (hl : xs.length ≤ 1048576) : ∀ d i : Nat, i + d = xs.length → ∀ a : Int, ∃ s : Int, Ev (fun k => spec_PowerOff.l0 k xs a i) (s, true) ∧ Ev (fun k => impl_PowerOff.l0 k xs a ((i + 1 : Nat) : Int)) (s, true) := by
  intro d
  induction d with
  | zero =>
    intro i hi a
    have w1 : wrap64 ((i : Int) + 1) = ((i + 1 : Nat) : Int) := by rw [w64 (by omega) (by omega)]; rfl
    exact ⟨a, Ev.step (fun k => spec_PowerOff.l0.eq_2 ..) (Ev.neg (by omega) (Ev.now _)), Ev.step (fun k => impl_PowerOff.l0.eq_2 ..) (Ev.neg (by omega) (Ev.now _))⟩
  | succ d ih =>
    intro i hi a
    have w1 : wrap64 ((i : Int) + 1) = ((i + 1 : Nat) : Int) := by rw [w64 (by omega) (by omega)]; rfl
    have w2 : wrap64 (((i + 1 : Nat) : Int) - 1) = (i : Int) := by rw [w64 (by omega) (by omega)]; omega
    have w3 : wrap64 (((i + 1 : Nat) : Int) + 1) = ((i + 1 + 1 : Nat) : Int) := by rw [w64 (by omega) (by omega)]; rfl
    by_cases c : i + 1 < xs.length
    · have sp : ∀ r, Ev _ r → Ev (fun k => spec_PowerOff.l0 k xs a i) r := fun r hr => Ev.step (fun k => spec_PowerOff.l0.eq_2 ..) (Ev.pos (by omega) (Ev.pos (by omega) (Ev.pos (by omega) hr)))
      have im : ∀ r, Ev _ r → Ev (fun k => impl_PowerOff.l0 k xs a ((i + 1 : Nat) : Int)) r := fun r hr => Ev.step (fun k => impl_PowerOff.l0.eq_2 ..) (Ev.pos (by omega) (Ev.pos (by omega) (Ev.pos (by omega) hr)))
      rw [w1] at sp
      rw [w2, w3] at im
      by_cases p : (rd_T31 xs i).f2 = true
      · obtain ⟨s, h1, h2⟩ := ih (i + 1) (by omega) a
        exact ⟨s, sp _ (Ev.pos p h1), im _ (Ev.pos p h2)⟩
      · obtain ⟨s, h1, h2⟩ := ih (i + 1) (by omega) (wrap64 (wrap64 (a + (rd_T31 xs ((i + 1 : Nat) : Int)).f0) - (rd_T31 xs i).f0))
        refine ⟨s, sp _ (Ev.neg p (Ev.pos (by omega) h1)), im _ (Ev.neg p (Ev.pos (by omega) ?_))⟩
        have e : wrap64 (a + wrap64 ((rd_T31 xs ((i + 1 : Nat) : Int)).f0 - (rd_T31 xs i).f0)) = wrap64 (wrap64 (a + (rd_T31 xs ((i + 1 : Nat) : Int)).f0) - (rd_T31 xs i).f0) := by unfold wrap64; omega
        rw [e]
        exact h2
    · exact ⟨a, Ev.step (fun k => spec_PowerOff.l0.eq_2 ..) (Ev.neg (by omega) (Ev.now _)), Ev.step (fun k => impl_PowerOff.l0.eq_2 ..) (Ev.neg (by omega) (Ev.now _))⟩

theorem powerOff (xs : List S31) (hl : xs.length ≤ 1048576) : ∃ r, Ev (fun k => spec_PowerOff.f k xs) r ∧ Ev (fun k => impl_PowerOff.f k xs) r := by
  obtain ⟨b, h1, h2, h3⟩ := readings xs hl
  unfold spec_PowerOff.f impl_PowerOff.f
  cases b with
  | true =>
    obtain ⟨s, s1, s2⟩ := off_at xs hl xs.length 0 (by omega) 0
    exact ⟨_, Ev.bind h1 (Ev.pos rfl s1), Ev.bind h2 (Ev.pos rfl s2)⟩
  | false => exact ⟨(0, false), Ev.bind h1 (Ev.neg (by simp) (Ev.now _)), Ev.bind h2 (Ev.neg (by simp) (Ev.now _))⟩


theorem rise_at (xs : List S31) (hv : ∀ i, i < xs.length → vR xs i) (i j : Nat) (hij : i ≤ j) (hj : j < xs.length) : (rd_T31 xs i).f0 ≤ (rd_T31 xs j).f0 := by
  induction j with
  | zero =>
    obtain rfl : i = 0 := by omega
    omega
  | succ j ih =>
    rcases Nat.lt_or_ge j i with h | h
    · obtain rfl : i = j + 1 := by omega
      omega
    · have := ih h (by omega)
      have h3 := (hv (j + 1) hj).2.2 (by omega)
      rw [show (((j + 1 : Nat) : Int) - 1) = (j : Int) by omega] at h3
      omega


theorem off2_at (xs : List S31) (hl : xs.length ≤ 20) (hv : ∀ i, i < xs.length → vR xs i) : ∀ d i : Nat, i + 1 + d = xs.length → ∀ a : Int, 0 ≤ a → a ≤ (rd_T31 xs i).f0 - (rd_T31 xs 0).f0 →
    ∃ s : Int, 0 ≤ s ∧ s ≤ (rd_T31 xs ((xs.length : Int) - 1)).f0 - (rd_T31 xs 0).f0 ∧ Ev (fun k => impl_PowerOff.l0 k xs a ((i + 1 : Nat) : Int)) (s, true) := by
  intro d
  induction d with
  | zero =>
    intro i hi a h0 h1
    rw [show (xs.length : Int) - 1 = (i : Int) by omega]
    exact ⟨a, h0, h1, Ev.step (fun k => impl_PowerOff.l0.eq_2 ..) (Ev.neg (by omega) (Ev.now _))⟩
  | succ d ih =>
    intro i hi a h0 h1
    have w2 : wrap64 (((i + 1 : Nat) : Int) - 1) = (i : Int) := by rw [w64 (by omega) (by omega)]; omega
    have w3 : wrap64 (((i + 1 : Nat) : Int) + 1) = ((i + 1 + 1 : Nat) : Int) := by rw [w64 (by omega) (by omega)]; rfl
    have v0 := (hv 0 (by omega)).1
    have v1 := (hv i (by omega)).1
    have v2 := (hv (i + 1) (by omega)).1
    have v3 := (hv (i + 1) (by omega)).2.2 (by omega)
    rw [show (((i + 1 : Nat) : Int) - 1) = (i : Int) by omega] at v3
    have im : ∀ r, Ev _ r → Ev (fun k => impl_PowerOff.l0 k xs a ((i + 1 : Nat) : Int)) r := fun r hr => Ev.step (fun k => impl_PowerOff.l0.eq_2 ..) (Ev.pos (by omega) (Ev.pos (by omega) (Ev.pos (by omega) hr)))
    rw [w2, w3] at im
    by_cases p : (rd_T31 xs i).f2 = true
    · obtain ⟨s, s0, s1, h2⟩ := ih (i + 1) (by omega) a h0 (by omega)
      exact ⟨s, s0, s1, im _ (Ev.pos p h2)⟩
    · have w4 : wrap64 ((rd_T31 xs ((i + 1 : Nat) : Int)).f0 - (rd_T31 xs i).f0) = (rd_T31 xs ((i + 1 : Nat) : Int)).f0 - (rd_T31 xs i).f0 := w64 (by omega) (by omega)
      have w5 : wrap64 (a + ((rd_T31 xs ((i + 1 : Nat) : Int)).f0 - (rd_T31 xs i).f0)) = a + ((rd_T31 xs ((i + 1 : Nat) : Int)).f0 - (rd_T31 xs i).f0) := w64 (by simp only [Int.natCast_zero] at v0; omega) (by simp only [Int.natCast_zero] at v0; omega)
      obtain ⟨s, s0, s1, h2⟩ := ih (i + 1) (by omega) (a + ((rd_T31 xs ((i + 1 : Nat) : Int)).f0 - (rd_T31 xs i).f0)) (by omega) (by omega)
      refine ⟨s, s0, s1, im _ (Ev.neg p (Ev.pos (by omega) ?_))⟩
      rw [w4, w5]
      exact h2
/-- The hours without power: not more than all hours. -/
theorem powerOff2 (xs : List S31) (hl : xs.length ≤ 1048576) : ∃ r, Ev (fun k => spec_PowerOff.f k xs) r ∧ Ev (fun k => impl_PowerOff.f k xs) r ∧ (Log xs → 0 < xs.length → 0 ≤ r.1 ∧ r.1 ≤ (rd_T31 xs ((xs.length : Int) - 1)).f0 - (rd_T31 xs 0).f0) := by
  obtain ⟨r, r1, r2⟩ := powerOff xs hl
  refine ⟨r, r1, r2, fun h hp => ?_⟩
  obtain ⟨b, h1, h2, h3⟩ := readings xs hl
  obtain ⟨s, s0, s1, s2⟩ := off2_at xs h.1 h.2 (xs.length - 1) 0 (by omega) 0 (by omega) (by simp)
  have hb := h3.2 h
  subst hb
  have e : Ev (fun k => impl_PowerOff.f k xs) (s, true) := by
    unfold impl_PowerOff.f
    exact Ev.bind h2 (Ev.pos rfl s2)
  rw [Ev.funct r2 e]
  exact ⟨s0, s1⟩

theorem gcd_tmod (u v : Int) : Int.gcd v (Int.tmod u v) = Int.gcd u v := by
  rw [Int.gcd_eq_natAbs_gcd_natAbs, Int.gcd_eq_natAbs_gcd_natAbs, Int.natAbs_tmod, Nat.gcd_comm v.natAbs, Nat.gcd_comm u.natAbs]
  exact (Nat.gcd_rec v.natAbs u.natAbs).symm
/-- The greatest common divisor, as the reference reckons it. -/
theorem common_at : ∀ (n : Nat) (a b : Int), 0 ≤ a → 0 ≤ b → b.toNat ≤ n → Ev (fun k => spec_l15Common.l0 k a b) (Int.gcd a b : Int) := by
  intro n
  induction n with
  | zero =>
    intro a b ha hb hn
    obtain rfl : b = 0 := by omega
    refine Ev.step (fun k => spec_l15Common.l0.eq_2 ..) (Ev.pos rfl (Ev.eq (Ev.now _) ?_))
    rw [Int.gcd_zero_right]
    omega
  | succ n ih =>
    intro a b ha hb hn
    by_cases c : b = 0
    · subst c
      refine Ev.step (fun k => spec_l15Common.l0.eq_2 ..) (Ev.pos rfl (Ev.eq (Ev.now _) ?_))
      rw [Int.gcd_zero_right]
      omega
    · have e : Int.tmod a b = a % b := Int.tmod_eq_emod_of_nonneg ha
      have h1 := Int.emod_nonneg a c
      have h2 := Int.emod_lt_of_pos a (show 0 < b by omega)
      refine Ev.step (fun k => spec_l15Common.l0.eq_2 ..) (Ev.neg c (Ev.eq (ih b (Int.tmod a b) hb (by omega) (by omega)) ?_))
      rw [gcd_tmod]
/-- The program's own way: the loop of a signed pair ends at the divisor or its negative. -/
theorem fraction_at (a0 b0 : Int) (hb0 : 0 < b0) (r : Int × Int) (g : Int) (hg : 0 < g) (hg2 : g ≤ 9223372036854775807) (hr : r = (wrap64 (Int.tdiv a0 g), wrap64 (Int.tdiv b0 g))) : ∀ (n : Nat) (u v : Int), v.natAbs ≤ n → (Int.gcd u v : Int) = g → Ev (fun k => impl_fraction.l0 k a0 b0 u v) r := by
  intro n
  have last : ∀ u : Int, (Int.gcd u 0 : Int) = g → Ev (fun k => impl_fraction.l0 k a0 b0 u 0) r := by
    intro u hu
    rw [Int.gcd_zero_right] at hu
    have hb : decide (b0 < 0) = false := by simp; omega
    refine Ev.step (fun k => impl_fraction.l0.eq_2 ..) (Ev.pos rfl ?_)
    rw [hb]
    by_cases c : u < 0
    · have e : wrap64 (-u) = g := by rw [w64 (by omega) (by omega)]; omega
      rw [e]
      exact Ev.pos (by simp [c]) (Ev.neg (by omega) (Ev.eq (Ev.now _) hr.symm))
    · have e : u = g := by omega
      subst e
      exact Ev.neg (by simp; omega) (Ev.neg (by omega) (Ev.eq (Ev.now _) hr.symm))
  induction n with
  | zero =>
    intro u v hn hu
    obtain rfl : v = 0 := by omega
    exact last u hu
  | succ n ih =>
    intro u v hn hu
    by_cases c : v = 0
    · subst c
      exact last u hu
    · refine Ev.step (fun k => impl_fraction.l0.eq_2 ..) (Ev.neg c (ih v (Int.tmod u v) ?_ ?_))
      · have := Int.natAbs_tmod u v
        have h := Nat.mod_lt u.natAbs (show 0 < v.natAbs by omega)
        omega
      · rw [← hu]
        rw [gcd_tmod]

/-- A fraction in lowest terms: the reference's and the program's. -/
theorem reduced (a b : Int) (ha0 : -9223372036854775807 ≤ a) (ha1 : a ≤ 9223372036854775807) (hb0 : 0 < b) (hb1 : b ≤ 9223372036854775807) :
    ∃ g : Int, 0 < g ∧ g = Int.gcd a b ∧ Ev (fun k => spec_l15Reduce.f k a b) (wrap64 (Int.tdiv a g), wrap64 (Int.tdiv b g)) ∧ Ev (fun k => impl_fraction.f k a b) (wrap64 (Int.tdiv a g), wrap64 (Int.tdiv b g)) := by
  have hg : 0 < (Int.gcd a b : Int) := by
    have : 0 < Int.gcd a b := Int.gcd_pos_of_ne_zero_right a (by omega)
    omega
  have hg2 : (Int.gcd a b : Int) ≤ b := Int.le_of_dvd hb0 (Int.gcd_dvd_right a b)
  refine ⟨Int.gcd a b, hg, rfl, ?_, ?_⟩
  · unfold spec_l15Reduce.f spec_l15Common.f
    have m : ∀ x : Int, -9223372036854775807 ≤ x → x ≤ 9223372036854775807 → spec_l1Most.f x (wrap64 (-x)) = some (x.natAbs : Int) := by
      intro x h0 h1
      unfold spec_l1Most.f
      rw [w64 (by omega) (by omega)]
      by_cases c : x > -x
      · rw [if_pos c]; congr 1; omega
      · rw [if_neg c]; congr 1; omega
    have := common_at b.natAbs (a.natAbs : Int) (b.natAbs : Int) (by omega) (by omega) (by omega)
    rw [show Int.gcd (a.natAbs : Int) (b.natAbs : Int) = Int.gcd a b from by simp [Int.gcd]] at this
    exact Ev.bind (Ev.const (m a ha0 ha1) (Ev.const (m b (by omega) hb1) this)) (Ev.neg (by omega) (Ev.now _))
  · unfold impl_fraction.f
    exact fraction_at a b hb0 _ _ hg (by omega) rfl b.natAbs a b (Nat.le_refl _) rfl

theorem mean_at (xs : List S31) (hl : xs.length ≤ 20) (h2 : 2 ≤ xs.length) (hv : ∀ i, i < xs.length → vR xs i) :
    ∀ d i : Nat, i + 1 + d = xs.length → ∀ a : Int, -96000 * (i : Int) ≤ a → a ≤ 96000 * (i : Int) → ∃ s n m : Int, -96000 * 20 ≤ s ∧ s ≤ 96000 * 20 ∧
      Ev (fun k => spec_MeanTenth.l0 k xs a i) (n, m, true) ∧ Ev (fun k => impl_MeanTenth.l0 k xs a ((i + 1 : Nat) : Int)) (n, m, true) := by
  intro d
  have w3 : wrap64 ((xs.length : Int) - 1) = (xs.length : Int) - 1 := w64 (by omega) (by omega)
  induction d with
  | zero =>
    intro i hi a h0 h1
    have w1 : wrap64 ((i : Int) + 1) = ((i + 1 : Nat) : Int) := by rw [w64 (by omega) (by omega)]; rfl
    -- the hours rise
    have rise : ∀ j, j < xs.length → (rd_T31 xs 0).f0 + j ≤ (rd_T31 xs j).f0 := by
      intro j
      induction j with
      | zero => intro _; simp
      | succ j ihj =>
        intro hj
        have := ihj (by omega)
        have h3 := (hv (j + 1) hj).2.2 (by omega)
        rw [show (((j + 1 : Nat) : Int) - 1) = (j : Int) by omega] at h3
        omega
    have hlast := rise (xs.length - 1) (by omega)
    have v0 := (hv 0 (by omega)).1
    have v1 := (hv (xs.length - 1) (by omega)).1
    rw [show ((xs.length - 1 : Nat) : Int) = (xs.length : Int) - 1 by omega] at hlast v1
    have w4 : wrap64 ((rd_T31 xs ((xs.length : Int) - 1)).f0 - (rd_T31 xs 0).f0) = (rd_T31 xs ((xs.length : Int) - 1)).f0 - (rd_T31 xs 0).f0 := w64 (by simp at v0; omega) (by simp at v0; omega)
    obtain ⟨g, g1, g2, s1, s2⟩ := reduced a ((rd_T31 xs ((xs.length : Int) - 1)).f0 - (rd_T31 xs 0).f0) (by omega) (by omega) (by omega) (by simp at v0; omega)
    refine ⟨a, wrap64 (Int.tdiv a g), wrap64 (Int.tdiv ((rd_T31 xs ((xs.length : Int) - 1)).f0 - (rd_T31 xs 0).f0) g), by omega, by omega, Ev.step (fun k => spec_MeanTenth.l0.eq_2 ..) (Ev.neg (by omega) ?_), Ev.step (fun k => impl_MeanTenth.l0.eq_2 ..) (Ev.neg (by omega) ?_)⟩
    · rw [w3, w4]
      exact Ev.pos (by omega) (Ev.pos (by omega) (Ev.pos (by omega) (Ev.bind s1 (Ev.now _))))
    · rw [w3, w4]
      exact Ev.pos (by omega) (Ev.pos (by omega) (Ev.pos (by omega) (Ev.bind s2 (Ev.now _))))
  | succ d ih =>
    intro i hi a h0 h1
    have w1 : wrap64 ((i : Int) + 1) = ((i + 1 : Nat) : Int) := by rw [w64 (by omega) (by omega)]; rfl
    have w2 : wrap64 (((i + 1 : Nat) : Int) - 1) = (i : Int) := by rw [w64 (by omega) (by omega)]; omega
    have w5 : wrap64 (((i + 1 : Nat) : Int) + 1) = ((i + 1 + 1 : Nat) : Int) := by rw [w64 (by omega) (by omega)]; rfl
    obtain ⟨c1, c2, _⟩ := hv i (by omega)
    obtain ⟨c4, _, c6⟩ := hv (i + 1) (by omega)
    have c7 := c6 (by omega)
    rw [show (((i + 1 : Nat) : Int) - 1) = (i : Int) by omega] at c7
    generalize ht : (rd_T31 xs i).f1 = t at *
    generalize hp : (rd_T31 xs i).f0 = p at *
    generalize hq : (rd_T31 xs ((i + 1 : Nat) : Int)).f0 = q at *
    have w6 : wrap64 (q - p) = q - p := w64 (by omega) (by omega)
    have b1 : t * (q - p) ≤ 96000 := by
      have h3 : t * (q - p) ≤ 400 * (q - p) := Int.mul_le_mul_of_nonneg_right c2.2 (by omega)
      omega
    have b2 : -96000 ≤ t * (q - p) := by
      have h3 : -400 * (q - p) ≤ t * (q - p) := Int.mul_le_mul_of_nonneg_right c2.1 (by omega)
      omega
    have w7 : wrap64 (t * (q - p)) = t * (q - p) := w64 (by omega) (by omega)
    have w8 : wrap64 (a + t * (q - p)) = a + t * (q - p) := w64 (by omega) (by omega)
    obtain ⟨s, n, m, k1, k2, k3, k4⟩ := ih (i + 1) (by omega) (a + t * (q - p)) (by omega) (by omega)
    refine ⟨s, n, m, k1, k2, Ev.step (fun k => spec_MeanTenth.l0.eq_2 ..) (Ev.pos (by omega) (Ev.pos (by omega) (Ev.pos (by omega) (Ev.pos (by omega) ?_)))), Ev.step (fun k => impl_MeanTenth.l0.eq_2 ..) (Ev.pos (by omega) (Ev.pos (by omega) (Ev.pos (by omega) (Ev.pos (by omega) ?_))))⟩
    · rw [w1, ht, hp, hq, w6, w7, w8]
      exact k3
    · rw [w2, w5, ht, hp, hq, w6, w7, w8]
      exact k4

theorem mean (xs : List S31) (hl : xs.length ≤ 1048576) : ∃ r, Ev (fun k => spec_MeanTenth.f k xs) r ∧ Ev (fun k => impl_MeanTenth.f k xs) r := by
  obtain ⟨b, h1, h2, h3⟩ := readings xs hl
  unfold spec_MeanTenth.f impl_MeanTenth.f
  cases b with
  | false => exact ⟨(0, 0, false), Ev.bind h1 (Ev.neg (by simp) (Ev.step (fun k => spec_MeanTenth.j0.eq_2 ..) (Ev.pos rfl (Ev.now _)))), Ev.bind h2 (Ev.neg (by simp) (Ev.step (fun k => impl_MeanTenth.j0.eq_2 ..) (Ev.pos rfl (Ev.now _))))⟩
  | true =>
    obtain ⟨l20, hv⟩ := h3.1 rfl
    by_cases c : (xs.length : Int) < 2
    · exact ⟨(0, 0, false), Ev.bind h1 (Ev.pos rfl (Ev.step (fun k => spec_MeanTenth.j0.eq_2 ..) (Ev.pos (by simp; omega) (Ev.now _)))), Ev.bind h2 (Ev.pos rfl (Ev.step (fun k => impl_MeanTenth.j0.eq_2 ..) (Ev.pos (by simp; omega) (Ev.now _))))⟩
    · obtain ⟨s, n, m, _, _, k3, k4⟩ := mean_at xs l20 (by omega) hv (xs.length - 1) 0 (by omega) 0 (by omega) (by omega)
      exact ⟨(n, m, true), Ev.bind h1 (Ev.pos rfl (Ev.step (fun k => spec_MeanTenth.j0.eq_2 ..) (Ev.neg (by simp; omega) k3))), Ev.bind h2 (Ev.pos rfl (Ev.step (fun k => impl_MeanTenth.j0.eq_2 ..) (Ev.neg (by simp; omega) k4)))⟩

theorem mean2_at (xs : List S31) (hl : xs.length ≤ 20) (h2 : 2 ≤ xs.length) (hv : ∀ i, i < xs.length → vR xs i) :
    ∀ d i : Nat, i + 1 + d = xs.length → ∀ a : Int, -96000 * (i : Int) ≤ a → a ≤ 96000 * (i : Int) →
      (∀ lo hi : Int, (∀ j : Nat, j < xs.length → lo ≤ (rd_T31 xs j).f1 ∧ (rd_T31 xs j).f1 ≤ hi) → lo * ((rd_T31 xs i).f0 - (rd_T31 xs 0).f0) ≤ a ∧ a ≤ hi * ((rd_T31 xs i).f0 - (rd_T31 xs 0).f0)) →
      ∃ n m : Int, Ev (fun k => impl_MeanTenth.l0 k xs a ((i + 1 : Nat) : Int)) (n, m, true) ∧ 0 < m ∧ m ≤ 240 ∧
        (∀ lo hi : Int, (∀ j : Nat, j < xs.length → lo ≤ (rd_T31 xs j).f1 ∧ (rd_T31 xs j).f1 ≤ hi) → lo * m ≤ n ∧ n ≤ hi * m) := by
  intro d
  have w3 : wrap64 ((xs.length : Int) - 1) = (xs.length : Int) - 1 := w64 (by omega) (by omega)
  induction d with
  | zero =>
    intro i hi a h0 h1 hb
    have hs := rise_at xs hv 1 (xs.length - 1) (by omega) (by omega)
    have h01 := (hv 1 (by omega)).2.2 (by omega)
    have v0 := (hv 0 (by omega)).1
    have v1 := (hv (xs.length - 1) (by omega)).1
    rw [show ((1 : Nat) : Int) - 1 = 0 by omega] at h01
    rw [show ((xs.length - 1 : Nat) : Int) = (xs.length : Int) - 1 by omega] at hs v1
    rw [show (i : Int) = (xs.length : Int) - 1 by omega] at hb
    simp only [Int.natCast_zero] at v0
    generalize hA : (rd_T31 xs ((xs.length : Int) - 1)).f0 = A at *
    generalize hB : (rd_T31 xs 0).f0 = B at *
    have w4 : wrap64 (A - B) = A - B := w64 (by omega) (by omega)
    obtain ⟨g, g1, g2, s1, s2⟩ := reduced a (A - B) (by omega) (by omega) (by omega) (by omega)
    obtain ⟨x, hx⟩ : g ∣ a := g2 ▸ Int.gcd_dvd_left ..
    obtain ⟨y, hy⟩ : g ∣ A - B := g2 ▸ Int.gcd_dvd_right ..
    have y0 : 0 < y := by
      rcases Int.lt_or_le 0 y with h | h
      · exact h
      · have := Int.mul_le_mul_of_nonneg_left h (Int.le_of_lt g1)
        omega
    have y1 : y ≤ A - B := by
      have := Int.mul_le_mul_of_nonneg_right (show (1 : Int) ≤ g by omega) (Int.le_of_lt y0)
      omega
    have x1 : -96000 * 20 ≤ x ∧ x ≤ 96000 * 20 := by
      have k1 : g * x ≤ 96000 * 20 := by omega
      have k2 : -96000 * 20 ≤ g * x := by omega
      constructor
      · rcases Int.lt_or_le x 0 with h | h
        · have := Int.mul_le_mul_of_nonpos_right (show (1 : Int) ≤ g by omega) (Int.le_of_lt h)
          omega
        · omega
      · rcases Int.lt_or_le x 0 with h | h
        · omega
        · have := Int.mul_le_mul_of_nonneg_right (show (1 : Int) ≤ g by omega) h
          omega
    have e1 : wrap64 (Int.tdiv a g) = x := by
      rw [hx, Int.mul_tdiv_cancel_left _ (by omega)]
      exact w64 (by omega) (by omega)
    have e2 : wrap64 (Int.tdiv (A - B) g) = y := by
      rw [hy, Int.mul_tdiv_cancel_left _ (by omega)]
      exact w64 (by omega) (by omega)
    rw [e1, e2] at s2
    refine ⟨x, y, Ev.step (fun k => impl_MeanTenth.l0.eq_2 ..) (Ev.neg (by omega) ?_), y0, by omega, fun lo hi' h => ?_⟩
    · rw [w3, hA, hB, w4]
      exact Ev.pos (by omega) (Ev.pos (by omega) (Ev.pos (by omega) (Ev.bind s2 (Ev.now _))))
    · obtain ⟨k1, k2⟩ := hb lo hi' h
      rw [hx, hy] at k1 k2
      constructor
      · refine Int.le_of_mul_le_mul_left (a := g) ?_ g1
        rw [← Int.mul_assoc, Int.mul_comm g lo, Int.mul_assoc]
        exact k1
      · refine Int.le_of_mul_le_mul_left (a := g) ?_ g1
        rw [← Int.mul_assoc g hi', Int.mul_comm g hi', Int.mul_assoc]
        exact k2
  | succ d ih =>
    intro i hi a h0 h1 hb
    have w2 : wrap64 (((i + 1 : Nat) : Int) - 1) = (i : Int) := by rw [w64 (by omega) (by omega)]; omega
    have w5 : wrap64 (((i + 1 : Nat) : Int) + 1) = ((i + 1 + 1 : Nat) : Int) := by rw [w64 (by omega) (by omega)]; rfl
    obtain ⟨c1, c2, _⟩ := hv i (by omega)
    obtain ⟨c4, _, c6⟩ := hv (i + 1) (by omega)
    have c7 := c6 (by omega)
    rw [show (((i + 1 : Nat) : Int) - 1) = (i : Int) by omega] at c7
    have hb2 : ∀ lo hi : Int, (∀ j : Nat, j < xs.length → lo ≤ (rd_T31 xs j).f1 ∧ (rd_T31 xs j).f1 ≤ hi) → lo * ((rd_T31 xs ((i + 1 : Nat) : Int)).f0 - (rd_T31 xs 0).f0) ≤ a + (rd_T31 xs i).f1 * ((rd_T31 xs ((i + 1 : Nat) : Int)).f0 - (rd_T31 xs i).f0) ∧ a + (rd_T31 xs i).f1 * ((rd_T31 xs ((i + 1 : Nat) : Int)).f0 - (rd_T31 xs i).f0) ≤ hi * ((rd_T31 xs ((i + 1 : Nat) : Int)).f0 - (rd_T31 xs 0).f0) := by
      intro lo hi' h
      obtain ⟨k1, k2⟩ := hb lo hi' h
      obtain ⟨k3, k4⟩ := h i (by omega)
      have s : ∀ z : Int, z * ((rd_T31 xs ((i + 1 : Nat) : Int)).f0 - (rd_T31 xs 0).f0) = z * ((rd_T31 xs i).f0 - (rd_T31 xs 0).f0) + z * ((rd_T31 xs ((i + 1 : Nat) : Int)).f0 - (rd_T31 xs i).f0) := by
        intro z
        rw [← Int.mul_add]
        congr 1
        omega
      have k5 := Int.mul_le_mul_of_nonneg_right k3 (show 0 ≤ (rd_T31 xs ((i + 1 : Nat) : Int)).f0 - (rd_T31 xs i).f0 by omega)
      have k6 := Int.mul_le_mul_of_nonneg_right k4 (show 0 ≤ (rd_T31 xs ((i + 1 : Nat) : Int)).f0 - (rd_T31 xs i).f0 by omega)
      rw [s lo, s hi']
      omega
    have ih2 := ih (i + 1) (by omega)
    generalize ht : (rd_T31 xs i).f1 = t at *
    generalize hp : (rd_T31 xs i).f0 = p at *
    generalize hq : (rd_T31 xs ((i + 1 : Nat) : Int)).f0 = q at *
    have w6 : wrap64 (q - p) = q - p := w64 (by omega) (by omega)
    have b1 : t * (q - p) ≤ 96000 := by
      have h3 : t * (q - p) ≤ 400 * (q - p) := Int.mul_le_mul_of_nonneg_right c2.2 (by omega)
      omega
    have b2 : -96000 ≤ t * (q - p) := by
      have h3 : -400 * (q - p) ≤ t * (q - p) := Int.mul_le_mul_of_nonneg_right c2.1 (by omega)
      omega
    have w7 : wrap64 (t * (q - p)) = t * (q - p) := w64 (by omega) (by omega)
    have w8 : wrap64 (a + t * (q - p)) = a + t * (q - p) := w64 (by omega) (by omega)
    obtain ⟨n, m, k4, k5⟩ := ih2 (a + t * (q - p)) (by omega) (by omega) hb2
    refine ⟨n, m, Ev.step (fun k => impl_MeanTenth.l0.eq_2 ..) (Ev.pos (by omega) (Ev.pos (by omega) (Ev.pos (by omega) (Ev.pos (by omega) ?_)))), k5⟩
    rw [w2, w5, ht, hp, hq, w6, w7, w8]
    exact k4
/-- The mean: between the extremes. -/
theorem mean2 (xs : List S31) (hl : xs.length ≤ 1048576) : ∃ r, Ev (fun k => spec_MeanTenth.f k xs) r ∧ Ev (fun k => impl_MeanTenth.f k xs) r ∧ (r.2.2 = true → Log xs ∧ 2 ≤ xs.length ∧ 0 < r.2.1 ∧ r.2.1 ≤ 240 ∧
    (∀ lo hi : Int, (∀ j : Nat, j < xs.length → lo ≤ (rd_T31 xs j).f1 ∧ (rd_T31 xs j).f1 ≤ hi) → lo * r.2.1 ≤ r.1 ∧ r.1 ≤ hi * r.2.1)) := by
  obtain ⟨r, r1, r2⟩ := mean xs hl
  refine ⟨r, r1, r2, fun hr => ?_⟩
  obtain ⟨b, h1, h2, h3⟩ := readings xs hl
  unfold impl_MeanTenth.f at r2
  cases b with
  | false =>
    have e := Ev.funct r2 (Ev.bind h2 (Ev.neg (by simp) (Ev.step (fun k => impl_MeanTenth.j0.eq_2 ..) (Ev.pos rfl (Ev.now _)))))
    rw [e] at hr
    simp at hr
  | true =>
    have hL := h3.1 rfl
    obtain ⟨l20, hv⟩ := hL
    by_cases c : (xs.length : Int) < 2
    · have e := Ev.funct r2 (Ev.bind h2 (Ev.pos rfl (Ev.step (fun k => impl_MeanTenth.j0.eq_2 ..) (Ev.pos (by simp; omega) (Ev.now _)))))
      rw [e] at hr
      simp at hr
    · obtain ⟨n, m, k1, k2, k3, k4⟩ := mean2_at xs l20 (by omega) hv (xs.length - 1) 0 (by omega) 0 (by omega) (by omega) (fun lo hi _ => by simp)
      have e := Ev.funct r2 (Ev.bind h2 (Ev.pos rfl (Ev.step (fun k => impl_MeanTenth.j0.eq_2 ..) (Ev.neg (by simp; omega) k1))))
      rw [e]
      exact ⟨⟨l20, hv⟩, by omega, k2, k3, k4⟩


theorem split_hours (xs : List S31) (hv : ∀ i, i < xs.length → vR xs i) (hour : Int) : ∀ n : Nat, n ≤ xs.length → ∃ m : Nat, m ≤ n ∧ (∀ j : Nat, j < m → (rd_T31 xs j).f0 ≤ hour) ∧ (∀ j : Nat, m ≤ j → j < n → hour < (rd_T31 xs j).f0) := by
  intro n
  induction n with
  | zero => exact fun _ => ⟨0, Nat.le_refl _, fun j h => by omega, fun j _ h => by omega⟩
  | succ n ih =>
    intro hn
    obtain ⟨m, h1, h2, h3⟩ := ih (by omega)
    by_cases c : hour < (rd_T31 xs n).f0
    · refine ⟨m, by omega, h2, fun j hj hlt => ?_⟩
      rcases Nat.lt_or_ge j n with h | h
      · exact h3 j hj h
      · obtain rfl : j = n := by omega
        exact c
    · refine ⟨n + 1, by omega, fun j hj => ?_, fun j hj hlt => by omega⟩
      have := rise_at xs hv j n (by omega) (by omega)
      omega
theorem powered (xs : List S31) (hl : xs.length ≤ 20) (hv : ∀ i, i < xs.length → vR xs i) (hour : Int) : ∃ b : Bool, Ev (fun k => spec_l21Powered.f k xs hour) b ∧ Ev (fun k => impl_hasPower.f k xs hour) b := by
  obtain ⟨m, m1, m2, m3⟩ := split_hours xs hv hour xs.length (Nat.le_refl _)
  -- the answer: of the last reading by then
  obtain ⟨res, hres⟩ : ∃ res : Bool, res = (if m = 0 then false else (rd_T31 xs ((m : Int) - 1)).f2 && (decide (m < xs.length) || ((rd_T31 xs ((m : Int) - 1)).f0 == hour))) := ⟨_, rfl⟩
  refine ⟨res, ?_, ?_⟩
  · unfold spec_l21Powered.f
    rw [w64 (by omega) (by omega)]
    have main : ∀ d : Nat, m + d ≤ xs.length → Ev (fun k => spec_l21Powered.l0 k xs hour (((m + d : Nat) : Int) - 1)) res := by
      intro d
      induction d with
      | zero =>
        intro _
        by_cases c : m = 0
        · rw [if_pos c] at hres
          exact Ev.step (fun k => spec_l21Powered.l0.eq_2 ..) (Ev.neg (by omega) (Ev.eq (Ev.now _) hres.symm))
        · rw [if_neg c] at hres
          have h4 := m2 (m - 1) (by omega)
          rw [show ((m - 1 : Nat) : Int) = (m : Int) - 1 by omega] at h4
          refine Ev.step (fun k => spec_l21Powered.l0.eq_2 ..) (Ev.pos (by omega) (Ev.pos (by omega) (Ev.pos (by omega) (Ev.pos h4 ?_))))
          have w1 : wrap64 (((m + 0 : Nat) : Int) - 1 + 1) = (m : Int) := by rw [w64 (by omega) (by omega)]; omega
          rw [w1]
          rw [hres]
          simp only [Nat.add_zero]
          cases hp : (rd_T31 xs ((m : Int) - 1)).f2 with
          | false => exact Ev.neg (by simp) (Ev.now _)
          | true =>
            refine Ev.pos rfl ?_
            by_cases c2 : m < xs.length
            · exact Ev.pos (by omega) (Ev.eq (Ev.now _) (by simp [c2]))
            · exact Ev.neg (by omega) (Ev.eq (Ev.now _) (by simp [c2]))
      | succ d ih =>
        intro hd
        have h5 := m3 (m + d) (by omega) (by omega)
        have e1 : (((m + (d + 1) : Nat) : Int) - 1) = ((m + d : Nat) : Int) := by omega
        have w1 : wrap64 (((m + d : Nat) : Int) - 1) = ((m + d : Nat) : Int) - 1 := w64 (by omega) (by omega)
        rw [e1]
        refine Ev.step (fun k => spec_l21Powered.l0.eq_2 ..) (Ev.pos (by omega) (Ev.pos (by omega) (Ev.pos (by omega) (Ev.neg (by omega) ?_))))
        rw [w1]
        exact ih (by omega)
    have := main (xs.length - m) (by omega)
    rw [show ((m + (xs.length - m) : Nat) : Int) = (xs.length : Int) by omega] at this
    exact this
  · unfold impl_hasPower.f
    have main : ∀ d i : Nat, i + d = xs.length → Ev (fun k => impl_hasPower.l0 k xs hour xs xs.length i) (if i < m then res else false) := by
      intro d
      induction d with
      | zero =>
        intro i hi
        rw [if_neg (by omega)]
        exact Ev.step (fun k => impl_hasPower.l0.eq_2 ..) (Ev.neg (by omega) (Ev.now _))
      | succ d ih =>
        intro i hi
        have w1 : wrap64 ((i : Int) + 1) = ((i + 1 : Nat) : Int) := by rw [w64 (by omega) (by omega)]; rfl
        have next := ih (i + 1) (by omega)
        by_cases c : i < m
        · have h4 := m2 i c
          rw [if_pos c]
          refine Ev.step (fun k => impl_hasPower.l0.eq_2 ..) (Ev.pos (by omega) (Ev.pos (by omega) (Ev.pos (by omega) (Ev.pos h4 ?_))))
          rw [w1]
          by_cases c2 : i + 1 < m
          · rw [if_pos c2] at next
            have h5 := m2 (i + 1) c2
            exact Ev.pos (by omega) (Ev.pos (by omega) (Ev.neg (by omega) (Ev.neg (by omega) next)))
          · rw [if_neg c2] at next
            obtain rfl : m = i + 1 := by omega
            rw [if_neg (by omega)] at hres
            rw [show (((i + 1 : Nat) : Int) - 1) = (i : Int) by omega] at hres
            by_cases c3 : i + 1 < xs.length
            · have h6 := m3 (i + 1) (by omega) c3
              exact Ev.pos (by omega) (Ev.pos (by omega) (Ev.pos h6 (Ev.eq (Ev.now _) (by rw [hres]; simp [c3]))))
            · refine Ev.neg (by omega) (Ev.pos (by omega) ?_)
              by_cases c4 : hour = (rd_T31 xs i).f0
              · exact Ev.pos c4 (Ev.eq (Ev.now _) (by rw [hres]; simp [c4]))
              · refine Ev.neg c4 (Ev.eq next ?_)
                rw [hres]
                have c5 : ((rd_T31 xs i).f0 == hour) = false := by simp; omega
                simp [c3, c5]
        · have h5 := m3 i (by omega) (by omega)
          rw [if_neg c]
          rw [if_neg (by omega)] at next
          refine Ev.step (fun k => impl_hasPower.l0.eq_2 ..) (Ev.pos (by omega) (Ev.pos (by omega) (Ev.pos (by omega) (Ev.neg (by omega) ?_))))
          rw [w1]
          exact next
    have := main xs.length 0 (by omega)
    by_cases c : 0 < m
    · rw [if_pos c] at this
      exact this
    · rw [if_neg c] at this
      rw [if_pos (by omega)] at hres
      rw [hres]
      exact this

theorem logs_at (xs : List (List S31)) (hl : xs.length ≤ 10) (hx : ∀ x ∈ xs, x.length ≤ 1048576) (hour : Int) : ∀ d i : Nat, i + d = xs.length →
    (∃ t : Int, (t = -1 ∨ 0 ≤ t) ∧ Ev (fun k => slices_IndexFunc_impl_Reading.l0 k xs xs.length i) t ∧ (∀ a : Int, 0 ≤ a → a ≤ (i : Int) →
      (0 ≤ t → Ev (fun k => spec_PlugHours.l0 k xs hour a i) (0, false)) ∧ (t = -1 → ∃ r : Int, 0 ≤ r ∧ r ≤ xs.length ∧ Ev (fun k => spec_PlugHours.l0 k xs hour a i) (r, true) ∧ Ev (fun k => impl_PlugHours.l0 k hour a xs xs.length i) (r, true)))) := by
  intro d
  induction d with
  | zero =>
    intro i hi
    exact ⟨-1, .inl rfl, Ev.step (fun k => slices_IndexFunc_impl_Reading.l0.eq_2 ..) (Ev.neg (by omega) (Ev.now _)), fun a h0 h1 => ⟨fun h => by omega, fun _ => ⟨a, h0, by omega, Ev.step (fun k => spec_PlugHours.l0.eq_2 ..) (Ev.neg (by omega) (Ev.now _)), Ev.step (fun k => impl_PlugHours.l0.eq_2 ..) (Ev.neg (by omega) (Ev.now _))⟩⟩⟩
  | succ d ih =>
    intro i hi
    have w1 : wrap64 ((i : Int) + 1) = ((i + 1 : Nat) : Int) := by rw [w64 (by omega) (by omega)]; rfl
    have e : rd_L4 xs (i : Int) = xs[i]'(by omega) := by
      unfold rd_L4
      rw [Int.toNat_natCast]
      exact getD_of (List.getElem?_eq_getElem (by omega))
    have hxi := hx (xs[i]'(by omega)) (List.getElem_mem _)
    obtain ⟨b, h1, h2, h3⟩ := readings (xs[i]'(by omega)) hxi
    cases b with
    | false =>
      refine ⟨i, .inr (by omega), Ev.step (fun k => slices_IndexFunc_impl_Reading.l0.eq_2 ..) (Ev.pos (by omega) (Ev.pos (by omega) (Ev.pos (by omega) ?_))), fun a _ _ => ⟨fun _ => Ev.step (fun k => spec_PlugHours.l0.eq_2 ..) (Ev.pos (by omega) (Ev.pos (by omega) ?_)), fun h => by omega⟩⟩
      · rw [e]
        unfold impl_PlugHours_1.f
        exact Ev.bind (Ev.bind h2 (Ev.now _)) (Ev.pos rfl (Ev.now _))
      · rw [e]
        exact Ev.bind h1 (Ev.neg (by simp) (Ev.now _))
    | true =>
      obtain ⟨l20, hv⟩ := h3.1 rfl
      obtain ⟨p, p1, p2⟩ := powered _ l20 hv hour
      obtain ⟨t, t0, t1, t2⟩ := ih (i + 1) (by omega)
      refine ⟨t, t0, Ev.step (fun k => slices_IndexFunc_impl_Reading.l0.eq_2 ..) (Ev.pos (by omega) (Ev.pos (by omega) (Ev.pos (by omega) ?_))), fun a h0 ha => ?_⟩
      · rw [e, w1]
        unfold impl_PlugHours_1.f
        exact Ev.bind (Ev.bind h2 (Ev.now _)) (Ev.neg (by simp) t1)
      · have sp : ∀ r, Ev (fun k => spec_PlugHours.l0 k xs hour (if p = true then a + 1 else a) ((i + 1 : Nat) : Int)) r → Ev (fun k => spec_PlugHours.l0 k xs hour a i) r := by
          intro r hr
          refine Ev.step (fun k => spec_PlugHours.l0.eq_2 ..) (Ev.pos (by omega) (Ev.pos (by omega) ?_))
          rw [e, w1, w64 (x := a + 1) (by omega) (by omega)]
          refine Ev.bind h1 (Ev.pos rfl (Ev.bind p1 ?_))
          cases p with
          | true => exact Ev.pos rfl hr
          | false => exact Ev.neg (by simp) hr
        have im : ∀ r, Ev (fun k => impl_PlugHours.l0 k hour (if p = true then a + 1 else a) xs xs.length ((i + 1 : Nat) : Int)) r → Ev (fun k => impl_PlugHours.l0 k hour a xs xs.length i) r := by
          intro r hr
          refine Ev.step (fun k => impl_PlugHours.l0.eq_2 ..) (Ev.pos (by omega) (Ev.pos (by omega) (Ev.pos (by omega) ?_)))
          rw [e, w1, w64 (x := a + 1) (by omega) (by omega)]
          refine Ev.bind p2 ?_
          cases p with
          | true => exact Ev.pos rfl hr
          | false => exact Ev.neg (by simp) hr
        obtain ⟨g1, g2⟩ := t2 (if p = true then a + 1 else a) (by split <;> omega) (by split <;> omega)
        exact ⟨fun h => sp _ (g1 h), fun h => by
          obtain ⟨r, r0, r1, r2, r3⟩ := g2 h
          exact ⟨r, r0, r1, sp _ r2, im _ r3⟩⟩

theorem plugHours (xs : List (List S31)) (hx : ∀ x ∈ xs, x.length ≤ 1048576) (hour : Int) : ∃ r : Int × Bool, Ev (fun k => spec_PlugHours.f k xs hour) r ∧ Ev (fun k => impl_PlugHours.f k xs hour) r ∧ 0 ≤ r.1 ∧ r.1 ≤ xs.length := by
  unfold spec_PlugHours.f impl_PlugHours.f slices_ContainsFunc_impl_Reading.f slices_IndexFunc_impl_Reading.f
  have sb : Ev (fun k => spec_PlugHours.j0 k xs hour true) (0, false) := Ev.step (fun k => spec_PlugHours.j0.eq_2 ..) (Ev.pos rfl (Ev.now _))
  have ib : Ev (fun k => impl_PlugHours.j0 k xs hour true) (0, false) := Ev.step (fun k => impl_PlugHours.j0.eq_2 ..) (Ev.pos rfl (Ev.now _))
  by_cases c : (xs.length : Int) > 10
  · exact ⟨(0, false), Ev.pos c sb, Ev.pos c ib, by simp, by simp⟩
  · by_cases c1 : 0 ≤ hour ∧ hour ≤ 240
    · obtain ⟨t, t0, t1, t2⟩ := logs_at xs (by omega) hx hour xs.length 0 (by omega)
      obtain ⟨g1, g2⟩ := t2 0 (by omega) (by omega)
      have sp : ∀ r, Ev (fun k => spec_PlugHours.l0 k xs hour 0 0) r → Ev (fun k => if (xs.length : Int) > 10 then spec_PlugHours.j0 k xs hour true else (spec_l1In.f hour 0 240).bind fun t112 => spec_PlugHours.j0 k xs hour (!t112)) r :=
        fun r hr => Ev.neg c (Ev.const (l1In_eq _ _ _) (Ev.step (fun k => spec_PlugHours.j0.eq_2 ..) (Ev.neg (by simp [c1]) hr)))
      rcases t0 with rfl | t0
      · obtain ⟨r, r0, r1, r2, r3⟩ := g2 rfl
        exact ⟨(r, true), sp _ r2, Ev.neg c (Ev.const (within_eq _ _ _) (Ev.pos (by simp [c1]) (Ev.bind (Ev.bind t1 (Ev.now _)) (Ev.step (fun k => impl_PlugHours.j0.eq_2 ..) (Ev.neg (by simp) r3))))), r0, r1⟩
      · exact ⟨(0, false), sp _ (g1 t0), Ev.neg c (Ev.const (within_eq _ _ _) (Ev.pos (by simp [c1]) (Ev.bind (Ev.bind t1 (Ev.now _)) (Ev.step (fun k => impl_PlugHours.j0.eq_2 ..) (Ev.pos (by simp; omega) (Ev.now _)))))), by simp, by simp⟩
    · exact ⟨(0, false), Ev.neg c (Ev.const (l1In_eq _ _ _) (Ev.step (fun k => spec_PlugHours.j0.eq_2 ..) (Ev.pos (by simp; omega) (Ev.now _)))), Ev.neg c (Ev.const (within_eq _ _ _) (Ev.neg (by simp; omega) ib)), by simp, by simp⟩

theorem power_end {c : List Int} (hc : Bytes c) : Has (fun k => (spec_DrawPlugHours.f k c).bind fun bt => ((impl_PlugHours.f k bt.1 bt.2).bind fun b1 => ((spec_PlugHours.f k bt.1 bt.2).bind fun b2 => (if b1.1 = b2.1 then (if (b1.2 == b2.2) = true then (if b1.1 ≥ 0 then (some (decide (b1.1 ≤ (bt.1.length : Int)))) else (some false)) else (some false)) else (some false))))) (fun r => r = true) := by
  refine Has.bind (draw_plug hc) fun d ⟨d1, d2⟩ => ?_
  obtain ⟨r, h1, h2, h3, h4⟩ := plugHours d.1 (fun x hx => by have := d2 x hx; omega) d.2
  exact Has.ev h2 (Has.ev h1 (Has.pos rfl (Has.pos (by simp) (Has.pos h3 (Has.now (by simpa using h4))))))
theorem power_loop {c : List Int} (hc : Bytes c) (xs : List S31) (off n m : Int) (hL : Log xs) (h2 : 2 ≤ xs.length) (ho : 0 ≤ off ∧ off ≤ (rd_T31 xs ((xs.length : Int) - 1)).f0 - (rd_T31 xs 0).f0)
    (m0 : 0 < m) (m1 : m ≤ 240) (hb : ∀ lo hi : Int, (∀ j : Nat, j < xs.length → lo ≤ (rd_T31 xs j).f1 ∧ (rd_T31 xs j).f1 ≤ hi) → lo * m ≤ n ∧ n ≤ hi * m) :
    ∀ d i : Nat, i + d = xs.length → ∀ lo hi : Int, -400 ≤ lo → lo ≤ 400 → -400 ≤ hi → hi ≤ 400 → (∀ j : Nat, j < i → lo ≤ (rd_T31 xs j).f1 ∧ (rd_T31 xs j).f1 ≤ hi) →
      Has (fun k => laws_FnPower.l0 k c xs off n m lo hi i) (fun r => r = true) := by
  obtain ⟨l20, hv⟩ := hL
  intro d
  induction d with
  | zero =>
    intro i hi lo hi' a0 a1 b0 b1 h
    obtain ⟨k1, k2⟩ := hb lo hi' (fun j hj => h j (by omega))
    have g1 : lo * m ≤ 400 * m := Int.mul_le_mul_of_nonneg_right a1 (by omega)
    have g2 : -400 * m ≤ lo * m := Int.mul_le_mul_of_nonneg_right a0 (by omega)
    have g3 : hi' * m ≤ 400 * m := Int.mul_le_mul_of_nonneg_right b1 (by omega)
    have g4 : -400 * m ≤ hi' * m := Int.mul_le_mul_of_nonneg_right b0 (by omega)
    have v0 := (hv 0 (by omega)).1
    have v1 := (hv (xs.length - 1) (by omega)).1
    rw [show ((xs.length - 1 : Nat) : Int) = (xs.length : Int) - 1 by omega] at v1
    simp only [Int.natCast_zero] at v0
    refine Has.step (fun k => laws_FnPower.l0.eq_2 ..) (Has.neg (by omega) ?_)
    rw [show wrap64 (lo * m) = lo * m from w64 (by omega) (by omega), show wrap64 (hi' * m) = hi' * m from w64 (by omega) (by omega), show wrap64 ((xs.length : Int) - 1) = (xs.length : Int) - 1 from w64 (by omega) (by omega),
      show wrap64 ((rd_T31 xs ((xs.length : Int) - 1)).f0 - (rd_T31 xs 0).f0) = (rd_T31 xs ((xs.length : Int) - 1)).f0 - (rd_T31 xs 0).f0 from w64 (by omega) (by omega)]
    refine Has.neg (by omega) (Has.neg (by omega) (Has.neg (by omega) (Has.pos (by omega) (Has.pos (by omega) (Has.pos (by omega) ?_)))))
    exact Has.step (fun k => laws_FnPower.j3.eq_2 ..) (Has.neg (by simp; omega) (power_end hc))
  | succ d ih =>
    intro i hi lo hi' a0 a1 b0 b1 h
    have v := (hv i (by omega)).2.1
    refine Has.step (fun k => laws_FnPower.l0.eq_2 ..) (Has.pos (by omega) (Has.pos (by omega) ?_))
    rw [show wrap64 ((i : Int) + 1) = ((i + 1 : Nat) : Int) from by rw [w64 (by omega) (by omega)]; rfl]
    have low : ∀ lo2 hi2 : Int, lo2 ≤ lo → hi' ≤ hi2 → lo2 ≤ (rd_T31 xs i).f1 → (rd_T31 xs i).f1 ≤ hi2 → ∀ j : Nat, j < i + 1 → lo2 ≤ (rd_T31 xs j).f1 ∧ (rd_T31 xs j).f1 ≤ hi2 := by
      intro lo2 hi2 q1 q2 q3 q4 j hj
      rcases Nat.lt_or_ge j i with hji | hji
      · have := h j hji
        omega
      · obtain rfl : j = i := by omega
        exact ⟨q3, q4⟩
    refine Has.ite (fun c1 => Has.ite (fun c2 => ?_) (fun c2 => ?_)) (fun c1 => Has.ite (fun c2 => ?_) (fun c2 => ?_))
    · exact ih (i + 1) (by omega) _ _ v.1 v.2 v.1 v.2 (low _ _ (by omega) (by omega) (by omega) (by omega))
    · exact ih (i + 1) (by omega) _ _ v.1 v.2 b0 b1 (low _ _ (by omega) (by omega) (by omega) (by omega))
    · exact ih (i + 1) (by omega) _ _ a0 a1 v.1 v.2 (low _ _ (by omega) (by omega) (by omega) (by omega))
    · exact ih (i + 1) (by omega) _ _ a0 a1 b0 b1 (low _ _ (by omega) (by omega) (by omega) (by omega))
theorem FnPower : ∀ (l0 : (List Int)), (l0.length ≤ 9223372036854775807 ∧ ∀ x ∈ l0, (Lit.int .u8 x).wf = true) → ∃ k, laws_FnPower.f k l0 = some true := by
  intro l0 ⟨_, hw⟩
  have hc : Bytes l0 := bytes_wf hw
  suffices h : Has (fun k => laws_FnPower.f k l0) (fun r => r = true) by
    obtain ⟨r, hr, rfl⟩ := h
    exact Ev.rounds hr
  unfold laws_FnPower.f laws_rBig.f
  refine Has.val (Has.ite (fun _ => Has.now rfl) (fun _ => ?_))
  unfold spec_DrawMeanTenth.f spec_DrawIsValidReadings.f
  have dr : Has (fun k => ((spec_l1Cur_readings.f k l0 0 0).bind fun bt170 => (some bt170.1)).bind fun t175 => (some t175)) (fun xs => xs.length ≤ 30) :=
    Has.bind (Has.bind (draw_log hc 0 (by omega) (by omega)) fun a ha => Has.now ha.1) fun a ha => Has.now ha
  refine Has.bind dr fun xs hx => ?_
  obtain ⟨r, r1, r2, r3⟩ := powerOff2 xs (by omega)
  refine Has.ev r2 (Has.ev r1 (Has.pos rfl (Has.step (fun k => laws_FnPower.j0.eq_2 ..) (Has.neg (by simp) ?_))))
  obtain ⟨q, q1, q2, q3⟩ := mean2 xs (by omega)
  refine Has.ev q2 (Has.ev q1 (Has.pos rfl (Has.pos rfl (Has.step (fun k => laws_FnPower.j1.eq_2 ..) (Has.neg (by simp) ?_)))))
  refine Has.ite (fun hq => ?_) (fun _ => power_end hc)
  obtain ⟨hL, h2, m0, m1, hb⟩ := q3 hq
  refine Has.pos (by omega) ?_
  have v0 := (hL.2 0 (by omega)).2.1
  simp only [Int.natCast_zero] at v0
  exact power_loop hc xs r.1 q.1 q.2.1 hL h2 (r3 hL (by omega)) m0 m1 hb xs.length 0 (by omega) _ _ v0.1 v0.2 v0.1 v0.2 (fun j hj => by omega)
end Go.Proofs.Ytafdafmoiocjgaa.Pure
