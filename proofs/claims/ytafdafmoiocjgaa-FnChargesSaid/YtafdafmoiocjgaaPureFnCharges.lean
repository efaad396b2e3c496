/- The drawn charges: a longer stay is never cheaper, the longest stay for an amount is affordable, and the parts of a stay add up to it. No condition. -/
import Derived.Test.YtafdafmoiocjgaaInvFnCharges
import Derived.Test.YtafdafmoiocjgaaWHelp
import Derived.Lib.Zigzag
namespace Go.Proofs.Ytafdafmoiocjgaa.Pure
open Go.RowKit Go.Proofs.YtafdafmoiocjgaaW.PrintWords Go.Proofs.YtafdafmoiocjgaaW.PrintLast Go.Proofs.YtafdafmoiocjgaaW.PrintMore Go.Proofs.YtafdafmoiocjgaaW.Help Go.Proofs.Ytafdafmoiocjgaa.PFnCharges
set_option linter.unusedVariables false

/-- From some number of rounds on there is a value, and it is as told. -/
def Has {α : Type} (g : Nat → Option α) (Q : α → Prop) : Prop := ∃ r, Ev g r ∧ Q r
theorem Has.bind {α β : Type} {g : Nat → Option α} {f : Nat → α → Option β} {P : α → Prop} {Q : β → Prop} (h : Has g P) (k : ∀ a, P a → Has (fun n => f n a) Q) : Has (fun n => (g n).bind (f n)) Q := by
  obtain ⟨a, h1, h2⟩ := h
  obtain ⟨r, r1, r2⟩ := k a h2
  exact ⟨r, Ev.bind h1 r1, r2⟩
theorem Has.pos {α : Type} {c : Prop} [Decidable c] {A B : Nat → Option α} {Q : α → Prop} (h : c) (k : Has A Q) : Has (fun n => if c then A n else B n) Q := by
  obtain ⟨r, r1, r2⟩ := k
  exact ⟨r, Ev.pos h r1, r2⟩
theorem Has.neg {α : Type} {c : Prop} [Decidable c] {A B : Nat → Option α} {Q : α → Prop} (h : ¬ c) (k : Has B Q) : Has (fun n => if c then A n else B n) Q := by
  obtain ⟨r, r1, r2⟩ := k
  exact ⟨r, Ev.neg h r1, r2⟩
theorem Has.ite {α : Type} {c : Prop} [Decidable c] {A B : Nat → Option α} {Q : α → Prop} (h1 : c → Has A Q) (h2 : ¬ c → Has B Q) : Has (fun n => if c then A n else B n) Q := by
  by_cases h : c
  · exact Has.pos h (h1 h)
  · exact Has.neg h (h2 h)
theorem Has.now {α : Type} {a : α} {Q : α → Prop} (h : Q a) : Has (fun _ => some a) Q := ⟨a, Ev.now _, h⟩
theorem Has.step {α : Type} {g s : Nat → Option α} {Q : α → Prop} (e : ∀ k, g (k + 1) = s k) (h : Has s Q) : Has g Q := by
  obtain ⟨r, r1, r2⟩ := h
  exact ⟨r, Ev.step e r1, r2⟩
theorem Has.mono {α : Type} {g : Nat → Option α} {P Q : α → Prop} (h : Has g P) (k : ∀ a, P a → Q a) : Has g Q := by
  obtain ⟨r, r1, r2⟩ := h
  exact ⟨r, r1, k r r2⟩
theorem Has.val {α β : Type} {a : α} {f : Nat → α → Option β} {Q : β → Prop} (k : Has (fun n => f n a) Q) : Has (fun n => (some a).bind (f n)) Q := k
theorem Has.const {α β : Type} {o : Option α} {f : Nat → α → Option β} {a : α} {Q : β → Prop} (h : o = some a) (k : Has (fun n => f n a) Q) : Has (fun n => o.bind (f n)) Q := by
  obtain ⟨r, r1, r2⟩ := k
  exact ⟨r, Ev.const h r1, r2⟩
theorem Has.of {α : Type} {g : Nat → Option α} {r : α} {Q : α → Prop} (h : Ev g r) (k : Q r) : Has g Q := ⟨r, h, k⟩
theorem Has.ev {α β : Type} {g : Nat → Option α} {f : Nat → α → Option β} {a : α} {Q : β → Prop} (h : Ev g a) (k : Has (fun n => f n a) Q) : Has (fun n => (g n).bind (f n)) Q := by
  obtain ⟨r, r1, r2⟩ := k
  exact ⟨r, Ev.bind h r1, r2⟩

/-- The drawing's bytes. -/
def Bytes (c : List Int) : Prop := ∀ x ∈ c, 0 ≤ x ∧ x ≤ 255
theorem bytes_wf {c : List Int} (h : ∀ x ∈ c, (Lit.int .u8 x).wf = true) : Bytes c := fun x hx => by
  have := h x hx
  simp [Lit.wf, IntKind.min, IntKind.max, IntKind.signed, IntKind.bits] at this
  omega
theorem byte_of (y : Int) : 0 ≤ y % 2 ^ 8 ∧ y % 2 ^ 8 ≤ 255 := by omega
theorem byte_w (z : Int) (h : 0 ≤ z ∧ z ≤ 255) : 0 ≤ wrap64 z ∧ wrap64 z ≤ 255 := by
  rw [w64 (by omega) (by omega)]
  exact h
theorem high_of (s : Int) : 0 ≤ IntKind.u64.wrap s / 1099511627776 ∧ IntKind.u64.wrap s / 1099511627776 < 2 ^ 64 := by
  rw [IntKind.wrap_u64]
  omega
theorem low_byte (s : Int) : 0 ≤ wrap64 (Go.bits .and .u64 (IntKind.u64.wrap s / 1099511627776) 255) ∧ wrap64 (Go.bits .and .u64 (IntKind.u64.wrap s / 1099511627776) 255) ≤ 255 := by
  have h0 := high_of s
  generalize IntKind.u64.wrap s / 1099511627776 = y at h0 ⊢
  have e : Go.bits .and .u64 y 255 = y % 2 ^ 8 := bits_mask .u64 64 (by decide) Go.wraps_u64 8 (by decide) y h0.1 h0.2
  rw [e]
  exact byte_w _ (byte_of _)
theorem next_some (c : List Int) (hc : Bytes c) (a s : Int) (h0 : 0 ≤ a) (h1 : a ≤ 4611686018427387904) : ∃ x t, spec_l1Cur_next.f c a s = some (x, a + 1, t) ∧ 0 ≤ x ∧ x ≤ 255 := by
  unfold spec_l1Cur_next.f
  rw [show wrap64 (a + 1) = a + 1 from w64 (by omega) (by omega)]
  by_cases q : a < (c.length : Int)
  · have e : 0 ≤ rd c a ∧ rd c a ≤ 255 := by
      unfold rd
      rw [getD_of (List.getElem?_eq_getElem (by omega))]
      exact hc _ (List.getElem_mem _)
    rw [if_pos q, if_pos h0, if_pos (by omega), w64 (by omega) (by omega)]
    exact ⟨_, _, rfl, e⟩
  · rw [if_neg q, if_neg (by omega)]
    exact ⟨_, _, rfl, low_byte _⟩
/-- A drawn number: the number itself and how far the drawing is. -/
def Dr (n a : Int) (r : Int × Int × Int) : Prop := 0 ≤ r.1 ∧ (1 < n → r.1 < n) ∧ (n ≤ 1 → r.1 = 0) ∧ a ≤ r.2.1 ∧ r.2.1 ≤ a + 2
theorem pick_some (c : List Int) (hc : Bytes c) (a s n : Int) (h0 : 0 ≤ a) (h1 : a ≤ 2305843009213693952) : ∃ r, spec_l1Cur_pick.f c a s n = some r ∧ Dr n a r := by
  unfold spec_l1Cur_pick.f
  by_cases q : n ≤ 1
  · rw [if_pos q]
    exact ⟨_, rfl, by simp [Dr]; omega⟩
  · rw [if_neg q]
    obtain ⟨x, t, e, x0, x1⟩ := next_some c hc a s h0 (by omega)
    rw [e]
    simp only [Option.bind_some]
    by_cases q2 : n > 200
    · rw [if_pos q2]
      obtain ⟨y, u, e2, y0, y1⟩ := next_some c hc (a + 1) t (by omega) (by omega)
      rw [e2]
      simp only [Option.bind_some]
      rw [if_neg (by omega), show wrap64 (x * 256) = x * 256 from w64 (by omega) (by omega), show wrap64 (x * 256 + y) = x * 256 + y from w64 (by omega) (by omega), Int.tmod_eq_emod_of_nonneg (by omega)]
      have m0 := Int.emod_nonneg (x * 256 + y) (show n ≠ 0 by omega)
      have m1 := Int.emod_lt_of_pos (x * 256 + y) (show 0 < n by omega)
      exact ⟨_, rfl, by simp only [Dr]; omega⟩
    · rw [if_neg q2, if_neg (by omega), Int.tmod_eq_emod_of_nonneg (by omega)]
      have m0 := Int.emod_nonneg x (show n ≠ 0 by omega)
      have m1 := Int.emod_lt_of_pos x (show 0 < n by omega)
      exact ⟨_, rfl, by simp only [Dr]; omega⟩
theorem pick {c : List Int} (hc : Bytes c) {a : Int} (s n : Int) (h0 : 0 ≤ a) (h1 : a ≤ 2305843009213693952) : Has (fun _ => spec_l1Cur_pick.f c a s n) (Dr n a) := by
  obtain ⟨r, e, d⟩ := pick_some c hc a s n h0 h1
  exact ⟨r, Ev.nor e, d⟩
/-- How far a drawing is behind at most m numbers. -/
def Far {α : Type} (m a : Int) (r : α × Int × Int) : Prop := a ≤ r.2.1 ∧ r.2.1 ≤ a + m
theorem among {c : List Int} (hc : Bytes c) {a : Int} (s : Int) (l : List Int) (hl : l ≠ []) (h0 : 0 ≤ a) (h1 : a ≤ 2305843009213693952) : Has (fun _ => spec_l1Cur_among.f c a s l) (fun r => r.1 ∈ l ∧ a ≤ r.2.1 ∧ r.2.1 ≤ a + 2) := by
  have hn : 0 < l.length := List.length_pos_iff.2 hl
  unfold spec_l1Cur_among.f
  refine Has.bind (pick hc s _ h0 h1) fun r ⟨r0, r1, r2, r3, r4⟩ => ?_
  have r5 : r.1 < (l.length : Int) := by
    rcases Int.lt_or_le 1 (l.length : Int) with h | h
    · exact r1 h
    · have := r2 h
      omega
  refine Has.pos r0 (Has.pos r5 (Has.now ⟨?_, r3, r4⟩))
  unfold rd
  rw [getD_of (List.getElem?_eq_getElem (by omega))]
  exact List.getElem_mem _
/-- A number of the first ones of a list. -/
theorem amongCut {β : Type} {c : List Int} (hc : Bytes c) {a : Int} (s : Int) (l : List Int) (b : Int) (hb : 1 ≤ b) (hl : b + 2 ≤ (l.length : Int)) (hm : (l.length : Int) ≤ 1000) (h0 : 0 ≤ a) (h1 : a ≤ 1152921504606846976) {K : Nat → Int × Int × Int → Option β} {Q : β → Prop}
    (k : ∀ r : Int × Int × Int, r.1 ∈ l → a ≤ r.2.1 → r.2.1 ≤ a + 4 → Has (fun n => K n r) Q) :
    Has (fun n => (spec_l1Cur_pick.f c a s 24).bind fun bt => (if 0 ≤ (wrap64 (b + (wrap64 (Int.tdiv bt.1 11)))) then (if (wrap64 (b + (wrap64 (Int.tdiv bt.1 11)))) ≤ (l.length : Int) then ((spec_l1Cur_among.f c bt.2.1 bt.2.2 (l.take ((wrap64 (b + (wrap64 (Int.tdiv bt.1 11)))) : Int).toNat)).bind (K n)) else (none)) else (none))) Q := by
  refine Has.bind (pick hc s 24 h0 (by omega)) fun r ⟨r0, r1, _, r3, r4⟩ => ?_
  have r5 := r1 (by omega)
  have e : wrap64 (b + wrap64 (Int.tdiv r.1 11)) = b + r.1 / 11 := by
    rw [Int.tdiv_eq_ediv_of_nonneg r0, w64 (x := r.1 / 11) (by omega) (by omega), w64 (by omega) (by omega)]
  rw [e]
  refine Has.pos (by omega) (Has.pos (by omega) ?_)
  refine Has.bind (among hc (a := r.2.1) r.2.2 _ ?_ (by omega) (by omega)) fun q ⟨q0, q1, q2⟩ => k q (List.mem_of_mem_take q0) (by omega) (by omega)
  intro h
  have h2 := congrArg List.length h
  rw [List.length_take, List.length_nil] at h2
  omega

/-- How far the drawing of a charge is. -/
def FarC (m a : Int) (r : Int × List S51 × Int × Int × Int) : Prop := r.2.1.length ≤ 30 ∧ a ≤ r.2.2.2.1 ∧ r.2.2.2.1 ≤ a + m
theorem draw_steps {c : List Int} (hc : Bytes c) (x5 : Int) (h5 : 0 ≤ x5) (f g y z : Int) : ∀ (d : Nat) (xs : List S51) (a s : Int), 8 ≤ xs.length + d → x5 < xs.length → xs.length ≤ 30 → 0 ≤ a → a ≤ 1000000000000000000 - 2 * d →
    Has (fun k => spec_l1Cur_charge.l1 k x5 c a s f xs g y z) (FarC (2 * d + 2) a) := by
  intro d
  induction d with
  | zero =>
    intro xs a s hl hx h30 h0 h1
    refine Has.step (fun k => spec_l1Cur_charge.l1.eq_2 ..) (Has.bind (pick hc s 2 h0 (by omega)) fun r ⟨r0, r1, _, r3, r4⟩ => ?_)
    have r5 := r1 (by omega)
    rw [w64 (x := 6 + r.1) (by omega) (by omega)]
    exact Has.neg (by omega) (Has.pos h5 (Has.pos hx (Has.now ⟨by simpa using h30, by simp only; omega, by simp only; omega⟩)))
  | succ d ih =>
    intro xs a s hl hx h30 h0 h1
    refine Has.step (fun k => spec_l1Cur_charge.l1.eq_2 ..) (Has.bind (pick hc s 2 h0 (by omega)) fun r ⟨r0, r1, _, r3, r4⟩ => ?_)
    have r5 := r1 (by omega)
    rw [w64 (x := 6 + r.1) (by omega) (by omega)]
    by_cases q : (xs.length : Int) < 6 + r.1
    · exact Has.pos q (Has.pos (by omega) (Has.mono (ih _ r.2.1 r.2.2 (by simp; omega) (by simp; omega) (by simp; omega) (by omega) (by omega)) fun b hb => ⟨hb.1, by have := hb.2; omega, by have := hb.2; omega⟩))
    · exact Has.neg q (Has.pos h5 (Has.pos hx (Has.now ⟨by simpa using h30, by simp only; omega, by simp only; omega⟩)))
theorem draw_charge_at {c : List Int} (hc : Bytes c) (f g : Int) : ∀ (n : Nat) (xs : List S51) (a s : Int), xs.length + n ≤ 8 → 0 < xs.length + n → 0 ≤ a → a ≤ 100000000000000000 - 6 * n →
    Has (fun k => spec_l1Cur_charge.l0 k n c a s f xs g) (FarC (6 * n + 60) a) := by
  intro n
  induction n with
  | zero =>
    intro xs a s hl hp h0 h1
    refine Has.step (fun k => spec_l1Cur_charge.l0.eq_2 ..) (Has.neg (by omega) ?_)
    refine Has.bind (pick hc s _ h0 (by omega)) fun i ⟨i0, i1, i2, i3, i4⟩ => ?_
    have i5 : i.1 < (xs.length : Int) := by
      rcases Int.lt_or_le 1 (xs.length : Int) with h | h
      · exact i1 h
      · have := i2 h
        omega
    refine Has.pos i0 (Has.pos i5 (Has.bind (pick hc i.2.2 40 (by omega) (by omega)) fun r ⟨r0, r1, _, r3, r4⟩ => ?_))
    have fin : ∀ (l : List Int), l ≠ [] → Has (fun _ => spec_l1Cur_among.f c r.2.1 r.2.2 l) (fun q => r.2.1 ≤ q.2.1 ∧ q.2.1 ≤ r.2.1 + 2) := fun l h => Has.mono (among hc r.2.2 l h (by omega) (by omega)) fun q hq => hq.2
    refine Has.ite (fun _ => ?_) (fun _ => Has.ite (fun _ => ?_) (fun _ => Has.ite (fun _ => ?_) (fun _ => Has.ite (fun _ => ?_) (fun _ => Has.ite (fun _ => ?_) (fun _ => ?_)))))
    · exact Has.bind (fin _ (by simp)) fun q q1 => Has.now ⟨by simp only [List.length_set]; omega, by simp only; omega, by simp only; omega⟩
    · exact Has.bind (fin _ (by simp)) fun q q1 => Has.now ⟨by simp only [List.length_set]; omega, by simp only; omega, by simp only; omega⟩
    · exact Has.bind (fin _ (by simp)) fun q q1 => Has.now ⟨by simp only [List.length_set]; omega, by simp only; omega, by simp only; omega⟩
    · exact Has.bind (fin _ (by simp)) fun q q1 => Has.now ⟨by simp only [List.length_set]; omega, by simp only; omega, by simp only; omega⟩
    · exact Has.mono (draw_steps hc i.1 i0 f g _ _ 8 xs r.2.1 r.2.2 (by omega) i5 (by omega) (by omega) (by omega)) fun b hb => ⟨hb.1, by have := hb.2; omega, by have := hb.2; omega⟩
    · exact Has.now ⟨by simp only [List.length_set]; omega, by simp only; omega, by simp only; omega⟩
  | succ n ih =>
    intro xs a s hl hp h0 h1
    refine Has.step (fun k => spec_l1Cur_charge.l0.eq_2 ..) (Has.pos (by omega) ?_)
    rw [show wrap64 (((n + 1 : Nat) : Int) - 1) = (n : Int) from by rw [w64 (by omega) (by omega)]; omega]
    refine Has.bind (among hc s _ (by simp) h0 (by omega)) fun q ⟨_, q1, q2⟩ => ?_
    refine Has.bind (among hc q.2.2 _ (by simp) (by omega) (by omega)) fun u ⟨_, u1, u2⟩ => ?_
    exact Has.pos (by omega) (Has.mono (ih _ u.2.1 u.2.2 (by simp; omega) (by simp; omega) (by omega) (by omega)) fun b hb => ⟨hb.1, by have := hb.2; omega, by have := hb.2; omega⟩)
theorem draw_charge {c : List Int} (hc : Bytes c) {a : Int} (s : Int) (h0 : 0 ≤ a) (h1 : a ≤ 10000000000000000) : Has (fun k => spec_l1Cur_charge.f k c a s) (FarC 200 a) := by
  unfold spec_l1Cur_charge.f
  refine Has.bind (among hc s _ (by simp) h0 (by omega)) fun q ⟨_, q1, q2⟩ => ?_
  refine Has.bind (among hc q.2.2 _ (by simp) (by omega) (by omega)) fun u ⟨_, u1, u2⟩ => ?_
  refine Has.bind (pick hc u.2.2 4 (by omega) (by omega)) fun r ⟨r0, r1, _, r3, r4⟩ => ?_
  have r5 := r1 (by omega)
  rw [show wrap64 (1 + r.1) = (((1 + r.1).toNat : Nat) : Int) from by rw [w64 (by omega) (by omega)]; omega]
  exact Has.mono (draw_charge_at hc q.1 u.1 (1 + r.1).toNat [] r.2.1 r.2.2 (by simp; omega) (by simp; omega) (by omega) (by omega)) fun b hb => ⟨hb.1, by have := hb.2; omega, by have := hb.2; omega⟩
theorem draw_stay {c : List Int} (hc : Bytes c) {a : Int} (s : Int) (h0 : 0 ≤ a) (h1 : a ≤ 10000000000000000) : Has (fun _ => spec_l1Cur_stay.f c a s) (fun r => r.1 ≤ 401 ∧ -1 ≤ r.1 ∧ a ≤ r.2.1 ∧ r.2.1 ≤ a + 4) := by
  unfold spec_l1Cur_stay.f
  exact Has.val (amongCut hc s _ 8 (by omega) (by simp) (by simp) h0 (by omega) fun r hr r1 r2 => Has.now ⟨by simp at hr; simp only; omega, by simp at hr; simp only; omega, r1, r2⟩)
theorem draw_size22 {c : List Int} (hc : Bytes c) {a : Int} (s : Int) (h0 : 0 ≤ a) (h1 : a ≤ 10000000000000000) : Has (fun _ => spec_l1Cur_size22.f c a s) (fun r => a ≤ r.2.1 ∧ r.2.1 ≤ a + 4) := by
  unfold spec_l1Cur_size22.f
  exact Has.val (amongCut hc s _ 4 (by omega) (by simp) (by simp) h0 (by omega) fun r hr r1 r2 => Has.now ⟨r1, r2⟩)

theorem l1In_eq (a b c : Int) : spec_l1In.f a b c = some (decide (b ≤ a ∧ a ≤ c)) := by
  unfold spec_l1In.f
  by_cases h : b ≤ a <;> simp [h]

theorem within_eq (a b c : Int) : impl_within.f a b c = some (decide (b ≤ a ∧ a ≤ c)) := by
  unfold impl_within.f
  by_cases h : b ≤ a <;> simp [h]

def stepOk (x : S51) : Prop := (1 ≤ x.f0 ∧ x.f0 ≤ 100) ∧ (0 ≤ x.f1 ∧ x.f1 ≤ 10000)
instance (x : S51) : Decidable (stepOk x) := by unfold stepOk; infer_instance
def Good (f : Int) (st : List S51) (g : Int) : Prop := (0 ≤ f ∧ f ≤ 30) ∧ (1 ≤ (st.length : Int) ∧ (st.length : Int) ≤ 6) ∧ (100 ≤ g ∧ g ≤ 300) ∧ ∀ j : Nat, j < st.length → stepOk (rd_T51 st j)
theorem notOk (x : S51) : impl_IsValidCharge_1.f x.f0 x.f1 = some (!decide (stepOk x)) := by
  unfold impl_IsValidCharge_1.f stepOk
  rw [within_eq, within_eq]
  by_cases h : 1 ≤ x.f0 ∧ x.f0 ≤ 100
  · simp only [h, Option.bind_some, true_and, and_self, decide_true, if_true]
  · simp only [h, Option.bind_some, false_and, decide_false]
    rfl
theorem goodLoop (st : List S51) (hl : st.length ≤ 1048577) (f g : Int) : ∀ d i : Nat, i + d = st.length → ∃ (b : Bool) (q : Int), Ev (fun k => spec_l22Good.l0 k i f st g) b ∧
    Ev (fun k => slices_IndexFunc_impl_RateStep.l0 k st st.length i) q ∧ (!decide (q ≥ 0)) = b ∧ (b = true ↔ ∀ j : Nat, i ≤ j → j < st.length → stepOk (rd_T51 st j)) := by
  intro d
  induction d with
  | zero =>
    intro i hi
    exact ⟨true, -1, Ev.step (fun k => spec_l22Good.l0.eq_2 ..) (Ev.neg (by omega) (Ev.now _)), Ev.step (fun k => slices_IndexFunc_impl_RateStep.l0.eq_2 ..) (Ev.neg (by omega) (Ev.now _)), rfl, ⟨fun _ j h1 h2 => absurd h2 (by omega), fun _ => rfl⟩⟩
  | succ d ih =>
    intro i hi
    have li : (i : Int) < st.length := by omega
    have l0 : (0 : Int) ≤ i := by omega
    have w1 : wrap64 ((i : Int) + 1) = ((i + 1 : Nat) : Int) := by rw [w64 (by omega) (by omega)]; rfl
    have no := notOk (rd_T51 st i)
    by_cases c : stepOk (rd_T51 st i)
    · obtain ⟨b, q, h1, h2, h3, h4⟩ := ih (i + 1) (by omega)
      rw [← w1] at h1 h2
      refine ⟨b, q, ?_, ?_, h3, h4.trans ⟨fun h j j1 j2 => ?_, fun h j j1 j2 => h j (by omega) j2⟩⟩
      · exact Ev.step (fun k => spec_l22Good.l0.eq_2 ..) (Ev.pos li (Ev.pos l0 (Ev.const (l1In_eq _ _ _) (Ev.pos (decide_eq_true c.1) (Ev.const (l1In_eq _ _ _) (Ev.pos (decide_eq_true c.2) h1))))))
      · refine Ev.step (fun k => slices_IndexFunc_impl_RateStep.l0.eq_2 ..) (Ev.pos li (Ev.pos l0 (Ev.pos li (Ev.const no (Ev.neg ?_ h2)))))
        rw [decide_eq_true c]
        exact fun h => by cases h
      · rcases Nat.lt_or_ge i j with q | q
        · exact h j q j2
        · obtain rfl : j = i := by omega
          exact c
    · refine ⟨false, i, ?_, ?_, by simp, ⟨fun h => (by cases h), fun h => absurd (h i (Nat.le_refl _) (by omega)) c⟩⟩
      · refine Ev.step (fun k => spec_l22Good.l0.eq_2 ..) (Ev.pos li (Ev.pos l0 (Ev.const (l1In_eq _ _ _) (Ev.ite (fun h1 => Ev.const (l1In_eq _ _ _) (Ev.neg (fun h2 => c ⟨of_decide_eq_true h1, of_decide_eq_true h2⟩) (Ev.now _))) (fun _ => Ev.now _)))))
      · refine Ev.step (fun k => slices_IndexFunc_impl_RateStep.l0.eq_2 ..) (Ev.pos li (Ev.pos l0 (Ev.pos li (Ev.const no (Ev.pos ?_ (Ev.now _))))))
        rw [decide_eq_false c]
        rfl
/-- Both tests of a charge. -/
theorem good (f : Int) (st : List S51) (hl : st.length ≤ 1048577) (g : Int) : ∃ b : Bool, Ev (fun k => spec_l22Good.f k f st g) b ∧ Ev (fun k => impl_IsValidCharge.f k f st g) b ∧ (b = true ↔ Good f st g) := by
  unfold spec_l22Good.f impl_IsValidCharge.f slices_ContainsFunc_impl_RateStep.f slices_IndexFunc_impl_RateStep.f
  have jt : Ev (fun k => spec_l22Good.j0 k true f st g) false := Ev.step (fun k => spec_l22Good.j0.eq_2 ..) (Ev.pos rfl (Ev.now _))
  by_cases c0 : 0 ≤ f ∧ f ≤ 30
  · by_cases c1 : 1 ≤ (st.length : Int) ∧ (st.length : Int) ≤ 6
    · by_cases c2 : 100 ≤ g ∧ g ≤ 300
      · obtain ⟨b, q, h1, h2, h3, h4⟩ := goodLoop st hl f g st.length 0 (by omega)
        refine ⟨b, Ev.const (l1In_eq _ _ _) (Ev.pos (decide_eq_true c0) (Ev.const (l1In_eq _ _ _) (Ev.pos (decide_eq_true c1) (Ev.const (l1In_eq _ _ _) (Ev.step (fun k => spec_l22Good.j0.eq_2 ..) (Ev.neg ?_ h1)))))),
          Ev.const (within_eq _ _ _) (Ev.pos (decide_eq_true c0) (Ev.const (within_eq _ _ _) (Ev.pos (decide_eq_true c1) (Ev.const (within_eq _ _ _) (Ev.pos (decide_eq_true c2) (Ev.bind (Ev.bind h2 (Ev.now _)) (Ev.eq (Ev.now _) h3))))))), h4.trans ⟨fun h => ⟨c0, c1, c2, fun j hj => h j (by omega) hj⟩, fun h j _ hj => h.2.2.2 j hj⟩⟩
        rw [decide_eq_true c2]
        exact fun h => by cases h
      · refine ⟨false, Ev.const (l1In_eq _ _ _) (Ev.pos (decide_eq_true c0) (Ev.const (l1In_eq _ _ _) (Ev.pos (decide_eq_true c1) (Ev.const (l1In_eq _ _ _) ?_)))),
          Ev.const (within_eq _ _ _) (Ev.pos (decide_eq_true c0) (Ev.const (within_eq _ _ _) (Ev.pos (decide_eq_true c1) (Ev.const (within_eq _ _ _) (Ev.neg (fun h => c2 (of_decide_eq_true h)) (Ev.now _)))))), ⟨fun h => (by cases h), fun h => absurd h.2.2.1 c2⟩⟩
        rw [decide_eq_false c2]
        exact jt
    · exact ⟨false, Ev.const (l1In_eq _ _ _) (Ev.pos (decide_eq_true c0) (Ev.const (l1In_eq _ _ _) (Ev.neg (fun h => c1 (of_decide_eq_true h)) jt))),
          Ev.const (within_eq _ _ _) (Ev.pos (decide_eq_true c0) (Ev.const (within_eq _ _ _) (Ev.neg (fun h => c1 (of_decide_eq_true h)) (Ev.now _)))), ⟨fun h => (by cases h), fun h => absurd h.2.1 c1⟩⟩
  · exact ⟨false, Ev.const (l1In_eq _ _ _) (Ev.neg (fun h => c0 (of_decide_eq_true h)) jt), Ev.const (within_eq _ _ _) (Ev.neg (fun h => c0 (of_decide_eq_true h)) (Ev.now _)), ⟨fun h => (by cases h), fun h => absurd h.1 c0⟩⟩

/-- How many steps on the day lies that is so far behind step i's first. -/
def stepOff (st : List S51) : Nat → Nat → Int → Nat
  | 0, _, _ => 0
  | d + 1, i, left => if left ≤ (rd_T51 st i).f0 then 0 else stepOff st d (i + 1) (left - (rd_T51 st i).f0) + 1
theorem stepOff_le (st : List S51) : ∀ d i : Nat, ∀ left : Int, stepOff st d i left ≤ d := by
  intro d
  induction d with
  | zero => intro i left; exact Nat.le_refl _
  | succ d ih =>
    intro i left
    rw [show stepOff st (d + 1) i left = if left ≤ (rd_T51 st i).f0 then 0 else stepOff st d (i + 1) (left - (rd_T51 st i).f0) + 1 from rfl]
    have := ih (i + 1) (left - (rd_T51 st i).f0)
    split <;> omega
/-- The step of a day. -/
def stepDay (f : Int) (st : List S51) (day : Int) : Int := if day ≤ f then -1 else (stepOff st (st.length - 1) 0 (day - f) : Int)
theorem stepDay_lt (f : Int) (st : List S51) (g : Int) (h : Good f st g) (day : Int) : -1 ≤ stepDay f st day ∧ stepDay f st day < st.length := by
  have := h.2.1
  have := stepOff_le st (st.length - 1) 0 (day - f)
  unfold stepDay
  split <;> omega
theorem specStep (f : Int) (st : List S51) (g : Int) (h : Good f st g) (day : Int) (d1 : day ≤ 401) : Ev (fun k => spec_l22Step.f k f st g day) (stepDay f st day) := by
  obtain ⟨h0, h1, h2, h3⟩ := h
  have main : ∀ d i : Nat, i + 1 + d = st.length → ∀ last : Int, 0 ≤ last → last ≤ 30 + 100 * i → Ev (fun k => spec_l22Step.l0 k day last i f st g) ((i + stepOff st d i (day - last) : Nat) : Int) := by
    intro d
    induction d with
    | zero =>
      intro i hi last l0 l1
      have w1 : wrap64 ((i : Int) + 1) = ((i + 1 : Nat) : Int) := by rw [w64 (by omega) (by omega)]; rfl
      refine Ev.step (fun k => spec_l22Step.l0.eq_2 ..) (Ev.neg (by rw [w1]; omega) (Ev.eq (Ev.now _) ?_))
      rw [w64 (by omega) (by omega), show stepOff st 0 i (day - last) = 0 from rfl]
      omega
    | succ d ih =>
      intro i hi last l0 l1
      obtain ⟨⟨o1, o2⟩, _⟩ := h3 i (by omega)
      have w1 : wrap64 ((i : Int) + 1) = ((i + 1 : Nat) : Int) := by rw [w64 (by omega) (by omega)]; rfl
      have w2 : wrap64 (last + (rd_T51 st i).f0) = last + (rd_T51 st i).f0 := w64 (by omega) (by omega)
      rw [show stepOff st (d + 1) i (day - last) = if day - last ≤ (rd_T51 st i).f0 then 0 else stepOff st d (i + 1) (day - last - (rd_T51 st i).f0) + 1 from rfl]
      refine Ev.step (fun k => spec_l22Step.l0.eq_2 ..) (Ev.pos (by rw [w1]; omega) (Ev.pos (by omega) (Ev.pos (by omega) ?_)))
      by_cases c : day ≤ last + (rd_T51 st i).f0
      · rw [if_pos (by omega)]
        exact Ev.pos (by rw [w2]; exact c) (Ev.now _)
      · rw [if_neg (by omega)]
        have := ih (i + 1) (by omega) (last + (rd_T51 st i).f0) (by omega) (by omega)
        rw [← w1, ← w2] at this
        refine Ev.neg (by rw [w2]; exact c) (Ev.eq this ?_)
        rw [w2, show day - (last + (rd_T51 st i).f0) = day - last - (rd_T51 st i).f0 by omega]
        omega
  unfold spec_l22Step.f stepDay
  by_cases c : day ≤ f
  · rw [if_pos c]
    exact Ev.pos c (Ev.now _)
  · rw [if_neg c]
    exact Ev.neg c (Ev.eq (main (st.length - 1) 0 (by omega) f h0.1 (by omega)) (by simp))

/-- The rate of a day. -/
def rateDay (f : Int) (st : List S51) (day : Int) : Int := if stepDay f st day < 0 then 0 else (rd_T51 st (stepDay f st day)).f1
theorem specRate (f : Int) (st : List S51) (g : Int) (h : Good f st g) (day : Int) (d1 : day ≤ 401) : Ev (fun k => spec_l22Rate.f k f st g day) (rateDay f st day) := by
  have lt := stepDay_lt f st g h day
  unfold spec_l22Rate.f
  refine Ev.bind (specStep f st g h day d1) ?_
  by_cases c : stepDay f st day < 0
  · exact Ev.pos c (Ev.eq (Ev.now _) (show (0 : Int) = rateDay f st day from (if_pos c).symm))
  · exact Ev.neg c (Ev.pos (by omega) (Ev.pos (by omega) (Ev.eq (Ev.now _) (show (rd_T51 st (stepDay f st day)).f1 = rateDay f st day from (if_neg c).symm))))

/-- What so many days from step i's first on cost. -/
def payAt (st : List S51) : Nat → Nat → Int → Int
  | 0, i, left => left * (rd_T51 st i).f1
  | d + 1, i, left => mn left (rd_T51 st i).f0 * (rd_T51 st i).f1 + payAt st d (i + 1) (left - mn left (rd_T51 st i).f0)
theorem payAt_zero (st : List S51) (h3 : ∀ j : Nat, j < st.length → stepOk (rd_T51 st j)) : ∀ d i : Nat, i + 1 + d = st.length → payAt st d i 0 = 0 := by
  intro d
  induction d with
  | zero => intro i _; exact Int.zero_mul _
  | succ d ih =>
    intro i hi
    have := (h3 i (by omega)).1
    have e : mn 0 (rd_T51 st i).f0 = 0 := if_neg (by omega)
    rw [show payAt st (d + 1) i 0 = mn 0 (rd_T51 st i).f0 * (rd_T51 st i).f1 + payAt st d (i + 1) (0 - mn 0 (rd_T51 st i).f0) from rfl, e, Int.zero_mul, Int.sub_self, ih (i + 1) (by omega)]
    rfl
theorem payAt_bounds (st : List S51) (h3 : ∀ j : Nat, j < st.length → stepOk (rd_T51 st j)) : ∀ d i : Nat, i + 1 + d = st.length → ∀ left : Int, 0 ≤ left → 0 ≤ payAt st d i left ∧ payAt st d i left ≤ left * 10000 := by
  intro d
  induction d with
  | zero =>
    intro i hi left l0
    obtain ⟨_, o1, o2⟩ := h3 i (by omega)
    exact ⟨Int.mul_nonneg l0 o1, Int.mul_le_mul_of_nonneg_left o2 l0⟩
  | succ d ih =>
    intro i hi left l0
    obtain ⟨⟨p1, p2⟩, o1, o2⟩ := h3 i (by omega)
    have m : 0 ≤ mn left (rd_T51 st i).f0 ∧ mn left (rd_T51 st i).f0 ≤ left := by unfold mn; split <;> omega
    obtain ⟨a, b⟩ := ih (i + 1) (by omega) (left - mn left (rd_T51 st i).f0) (by omega)
    have c := Int.mul_nonneg m.1 o1
    have e := Int.mul_le_mul_of_nonneg_left o2 m.1
    rw [show payAt st (d + 1) i left = mn left (rd_T51 st i).f0 * (rd_T51 st i).f1 + payAt st d (i + 1) (left - mn left (rd_T51 st i).f0) from rfl]
    generalize mn left (rd_T51 st i).f0 * (rd_T51 st i).f1 = u at *
    generalize mn left (rd_T51 st i).f0 = v at *
    generalize payAt st d (i + 1) (left - v) = w at *
    omega
theorem payAt_succ (st : List S51) (h3 : ∀ j : Nat, j < st.length → stepOk (rd_T51 st j)) : ∀ d i : Nat, i + 1 + d = st.length → ∀ left : Int, 0 ≤ left →
    payAt st d i (left + 1) = payAt st d i left + (rd_T51 st ((i + stepOff st d i (left + 1) : Nat) : Int)).f1 := by
  intro d
  induction d with
  | zero =>
    intro i hi left l0
    show (left + 1) * _ = left * _ + _
    rw [Int.add_mul, Int.one_mul]
    rfl
  | succ d ih =>
    intro i hi left l0
    obtain ⟨⟨p1, p2⟩, o1, o2⟩ := h3 i (by omega)
    have E : ∀ x : Int, payAt st (d + 1) i x = mn x (rd_T51 st i).f0 * (rd_T51 st i).f1 + payAt st d (i + 1) (x - mn x (rd_T51 st i).f0) := fun _ => rfl
    have O : stepOff st (d + 1) i (left + 1) = if left + 1 ≤ (rd_T51 st i).f0 then 0 else stepOff st d (i + 1) (left + 1 - (rd_T51 st i).f0) + 1 := rfl
    rw [E, E, O]
    by_cases c : left + 1 ≤ (rd_T51 st i).f0
    · have e1 : mn (left + 1) (rd_T51 st i).f0 = left + 1 := if_neg (by omega)
      have e2 : mn left (rd_T51 st i).f0 = left := if_neg (by omega)
      rw [e1, e2, if_pos c, Int.sub_self, Int.sub_self, payAt_zero st h3 d (i + 1) (by omega), Int.add_mul, Int.one_mul, Nat.add_zero]
      omega
    · have e1 : mn (left + 1) (rd_T51 st i).f0 = (rd_T51 st i).f0 := if_pos (by omega)
      have e2 : mn left (rd_T51 st i).f0 = (rd_T51 st i).f0 := by unfold mn; split <;> omega
      have h := ih (i + 1) (by omega) (left - (rd_T51 st i).f0) (by omega)
      have e3 : left + 1 - (rd_T51 st i).f0 = left - (rd_T51 st i).f0 + 1 := by omega
      rw [e1, e2, if_neg c, e3, h, show i + (stepOff st d (i + 1) (left - (rd_T51 st i).f0 + 1) + 1) = i + 1 + stepOff st d (i + 1) (left - (rd_T51 st i).f0 + 1) by omega]
      omega
/-- What so many days cost, and with a size. -/
def payDay (f : Int) (st : List S51) (days : Int) : Int := payAt st (st.length - 1) 0 (days - mn days f)
def paySize (f : Int) (st : List S51) (g size days : Int) : Int := if size = 2 then Int.tdiv (payDay f st days * g + 99) 100 else payDay f st days
theorem payDay_bounds (f : Int) (st : List S51) (g : Int) (h : Good f st g) (days : Int) (d0 : 0 ≤ days) (d1 : days ≤ 400) : 0 ≤ payDay f st days ∧ payDay f st days ≤ 4000000 := by
  obtain ⟨h0, h1, h2, h3⟩ := h
  have m : 0 ≤ mn days f ∧ mn days f ≤ days := by unfold mn; split <;> omega
  obtain ⟨a, b⟩ := payAt_bounds st h3 (st.length - 1) 0 (by omega) (days - mn days f) (by omega)
  unfold payDay
  omega
theorem payDay_zero (f : Int) (st : List S51) (g : Int) (h : Good f st g) : payDay f st 0 = 0 := by
  obtain ⟨h0, h1, h2, h3⟩ := h
  have m : mn 0 f = 0 := if_neg (by omega)
  unfold payDay
  rw [m, Int.sub_self, payAt_zero st h3 _ 0 (by omega)]
theorem payDay_succ (f : Int) (st : List S51) (g : Int) (h : Good f st g) (days : Int) (d0 : 0 ≤ days) : payDay f st (days + 1) = payDay f st days + rateDay f st (days + 1) := by
  obtain ⟨h0, h1, h2, h3⟩ := h
  unfold payDay rateDay stepDay
  by_cases c : days + 1 ≤ f
  · have e1 : mn (days + 1) f = days + 1 := if_neg (by omega)
    have e2 : mn days f = days := if_neg (by omega)
    rw [if_pos c, if_pos (by omega), e1, e2, Int.sub_self, Int.sub_self, payAt_zero st h3 _ 0 (by omega)]
    rfl
  · have e1 : mn (days + 1) f = f := if_pos (by omega)
    have e2 : mn days f = f := by unfold mn; split <;> omega
    have e3 : days + 1 - f = days - f + 1 := by omega
    rw [if_neg c, if_neg (by omega), e1, e2, e3, payAt_succ st h3 (st.length - 1) 0 (by omega) (days - f) (by omega), Nat.zero_add]
/-- The size's part of it. -/
theorem sized (p g : Int) (p0 : 0 ≤ p) (p1 : p ≤ 4000000) (g0 : 100 ≤ g) (g1 : g ≤ 300) : wrap64 (p * g) = p * g ∧ wrap64 (p * g + 99) = p * g + 99 ∧ wrap64 (Int.tdiv (p * g + 99) 100) = Int.tdiv (p * g + 99) 100 ∧ wrap64 (p * g + 100) = p * g + 100 := by
  have a := Int.mul_nonneg p0 (by omega : 0 ≤ g)
  have b : p * g ≤ 4000000 * 300 := Int.mul_le_mul p1 g1 (by omega) (by omega)
  generalize p * g = u at *
  rw [Int.tdiv_eq_ediv_of_nonneg (by omega)]
  exact ⟨w64 (by omega) (by omega), w64 (by omega) (by omega), w64 (by omega) (by omega), w64 (by omega) (by omega)⟩
theorem specPay (f : Int) (st : List S51) (g : Int) (h : Good f st g) (size : Int) (days : Nat) (d1 : days ≤ 400) : Ev (fun k => spec_l22Pay.f k f st g size days) (paySize f st g size days) := by
  have main : ∀ d i : Nat, i + d = days → Ev (fun k => spec_l22Pay.l0 k size days (payDay f st i) ((i + 1 : Nat) : Int) f st g) (paySize f st g size days) := by
    intro d
    induction d with
    | zero =>
      intro i hi
      obtain rfl : i = days := by omega
      obtain ⟨p0, p1⟩ := payDay_bounds f st g h i (by omega) (by omega)
      obtain ⟨a, b, c, _⟩ := sized (payDay f st i) g p0 p1 h.2.2.1.1 h.2.2.1.2
      refine Ev.step (fun k => spec_l22Pay.l0.eq_2 ..) (Ev.neg (by omega) ?_)
      by_cases q : size = 2
      · refine Ev.pos q (Ev.eq (Ev.now _) ?_)
        rw [show paySize f st g size i = Int.tdiv (payDay f st i * g + 99) 100 from if_pos q, a, b, c]
      · exact Ev.neg q (Ev.eq (Ev.now _) (show payDay f st i = paySize f st g size i from (if_neg q).symm))
    | succ d ih =>
      intro i hi
      have w1 : wrap64 (((i + 1 : Nat) : Int) + 1) = ((i + 1 + 1 : Nat) : Int) := by rw [w64 (by omega) (by omega)]; rfl
      have s := payDay_succ f st g h i (by omega)
      obtain ⟨p0, p1⟩ := payDay_bounds f st g h ((i + 1 : Nat) : Int) (by omega) (by omega)
      have s' : payDay f st ((i + 1 : Nat) : Int) = payDay f st i + rateDay f st ((i + 1 : Nat) : Int) := s
      have w2 : wrap64 (payDay f st i + rateDay f st ((i + 1 : Nat) : Int)) = payDay f st ((i + 1 : Nat) : Int) := by rw [← s']; exact w64 (by omega) (by omega)
      have r := ih (i + 1) (by omega)
      rw [← w1, ← w2] at r
      exact Ev.step (fun k => spec_l22Pay.l0.eq_2 ..) (Ev.pos (by omega) (Ev.bind (specRate f st g h _ (by omega)) r))
  have z := main days 0 (by omega)
  rw [show ((0 : Nat) : Int) = 0 from rfl, payDay_zero f st g h] at z
  exact z


/-- The days of step i and of the ones behind it. -/
def splitAt' (st : List S51) : Nat → Nat → Int → List Int
  | 0, _, left => [left]
  | d + 1, i, left => mn left (rd_T51 st i).f0 :: splitAt' st d (i + 1) (left - mn left (rd_T51 st i).f0)
theorem splitAt_length (st : List S51) : ∀ d i : Nat, ∀ left : Int, (splitAt' st d i left).length = d + 1 := by
  intro d
  induction d with
  | zero => intro i left; rfl
  | succ d ih => intro i left; exact congrArg (· + 1) (ih (i + 1) _)
def splitDay (f : Int) (st : List S51) (days : Int) : List Int := mn days f :: splitAt' st (st.length - 1) 0 (days - mn days f)
theorem implSplit (f : Int) (st : List S51) (g : Int) (h : Good f st g) (days : Int) (d0 : 0 ≤ days) (d1 : days ≤ 400) : Ev (fun k => impl_splitStay.f k f st g days) (splitDay f st days) := by
  obtain ⟨h0, h1, h2, h3⟩ := h
  have main : ∀ d i : Nat, i + 1 + d = st.length → ∀ left : Int, 0 ≤ left → left ≤ 400 → ∀ out : List Int, out.length ≤ i + 1 → Ev (fun k => impl_splitStay.l0 k out left st st.length i f st g) (out ++ splitAt' st d i left) := by
    intro d
    induction d with
    | zero =>
      intro i hi left l0 l1 out ho
      have w0 : wrap64 ((st.length : Int) - 1) = i := by rw [w64 (by omega) (by omega)]; omega
      have w1 : wrap64 ((i : Int) + 1) = ((i + 1 : Nat) : Int) := by rw [w64 (by omega) (by omega)]; rfl
      refine Ev.step (fun k => impl_splitStay.l0.eq_2 ..) (Ev.pos (by omega) (Ev.pos (by omega) (Ev.pos (by omega) (Ev.pos w0.symm (Ev.pos (by omega) ?_)))))
      rw [w1]
      exact Ev.step (fun k => impl_splitStay.l0.eq_2 ..) (Ev.neg (by omega) (Ev.now _))
    | succ d ih =>
      intro i hi left l0 l1 out ho
      obtain ⟨⟨p1, p2⟩, _⟩ := h3 i (by omega)
      have m : 0 ≤ mn left (rd_T51 st i).f0 ∧ mn left (rd_T51 st i).f0 ≤ left := by unfold mn; split <;> omega
      obtain ⟨m0, m1⟩ := m
      generalize hx : mn left (rd_T51 st i).f0 = x at m0 m1
      have li : (i : Int) < st.length := by omega
      have i0 : (0 : Int) ≤ i := by omega
      have ni : ¬ (i : Int) = (st.length : Int) - 1 := by omega
      have lo : out.length < 17592186044416 := by omega
      have lo2 : (out ++ [x]).length ≤ i + 1 + 1 := by rw [List.length_append, List.length_singleton]; omega
      have r := ih (i + 1) (by omega) (left - x) (by omega) (by omega) (out ++ [x]) lo2
      have w0 : wrap64 ((st.length : Int) - 1) = (st.length : Int) - 1 := w64 (by omega) (by omega)
      have w1 : wrap64 ((i : Int) + 1) = ((i + 1 : Nat) : Int) := by rw [w64 (by omega) (by omega)]; rfl
      have w2 : wrap64 (left - x) = left - x := w64 (by omega) (by omega)
      have E : splitAt' st (d + 1) i left = x :: splitAt' st d (i + 1) (left - x) := by rw [← hx]; rfl
      refine Ev.step (fun k => impl_splitStay.l0.eq_2 ..) (Ev.pos li (Ev.pos i0 (Ev.pos li (Ev.neg (by rw [w0]; exact ni) (Ev.pos lo ?_)))))
      rw [hx, w1, w2]
      refine Ev.eq r ?_
      rw [E, List.append_assoc]
      rfl
  have m : 0 ≤ mn days f ∧ mn days f ≤ days := by unfold mn; split <;> omega
  have w2 : wrap64 (days - mn days f) = days - mn days f := w64 (by omega) (by omega)
  have z := main (st.length - 1) 0 (by omega) (days - mn days f) (by omega) (by omega) [mn days f] (by simp)
  have hr : rd [mn days f] 0 = mn days f := rfl
  unfold impl_splitStay.f
  refine Ev.some (Ev.pos (by simp) ?_)
  rw [hr, w2]
  exact z


def Asked (f : Int) (st : List S51) (g size days : Int) : Prop := Good f st g ∧ (1 ≤ size ∧ size ≤ 2) ∧ (0 ≤ days ∧ days ≤ 400)
theorem asked (f : Int) (st : List S51) (hl : st.length ≤ 1048577) (g size days : Int) : ∃ b : Bool, Ev (fun k => spec_l22Asked.f k f st g size days) b ∧ Ev (fun k => impl_isStay.f k f st g size days) b ∧ (b = true ↔ Asked f st g size days) := by
  obtain ⟨b, h1, h2, h3⟩ := good f st hl g
  unfold spec_l22Asked.f impl_isStay.f
  by_cases c0 : b = true
  · by_cases c1 : 1 ≤ size ∧ size ≤ 2
    · refine ⟨decide (0 ≤ days ∧ days ≤ 400), Ev.bind h1 (Ev.pos c0 (Ev.const (l1In_eq _ _ _) (Ev.pos (decide_eq_true c1) (Ev.const (l1In_eq _ _ _) (Ev.now _))))), Ev.bind h2 (Ev.pos c0 (Ev.const (within_eq _ _ _) (Ev.pos (decide_eq_true c1) (Ev.const (within_eq _ _ _) (Ev.now _))))), ?_⟩
      exact ⟨fun h => ⟨h3.1 c0, c1, of_decide_eq_true h⟩, fun h => decide_eq_true h.2.2⟩
    · exact ⟨false, Ev.bind h1 (Ev.pos c0 (Ev.const (l1In_eq _ _ _) (Ev.neg (fun h => c1 (of_decide_eq_true h)) (Ev.now _)))), Ev.bind h2 (Ev.pos c0 (Ev.const (within_eq _ _ _) (Ev.neg (fun h => c1 (of_decide_eq_true h)) (Ev.now _)))), ⟨fun h => (by cases h), fun h => absurd h.2.1 c1⟩⟩
  · exact ⟨false, Ev.bind h1 (Ev.neg c0 (Ev.now _)), Ev.bind h2 (Ev.neg c0 (Ev.now _)), ⟨fun h => (by cases h), fun h => absurd (h3.2 h.1) c0⟩⟩

theorem implPay (f : Int) (st : List S51) (g : Int) (h : Good f st g) (size days : Int) (d0 : 0 ≤ days) (d1 : days ≤ 400) : Ev (fun k => impl_stayCharge.f k f st g size days) (paySize f st g size days) := by
  have sp := implSplit f st g h days d0 d1
  obtain ⟨P0, P1⟩ := payDay_bounds f st g h days d0 d1
  obtain ⟨h0, h1, h2, h3⟩ := h
  have fin : Ev (fun k => impl_stayCharge.l0 k size (payDay f st days) (splitAt' st (st.length - 1) 0 (days - mn days f)) st.length st.length f st g) (paySize f st g size days) := by
    obtain ⟨a, b, c, e⟩ := sized (payDay f st days) g P0 P1 h2.1 h2.2
    refine Ev.step (fun k => impl_stayCharge.l0.eq_2 ..) (Ev.neg (by omega) ?_)
    unfold impl_ceiling.f
    by_cases q : size = 2
    · refine Ev.pos q (Ev.bind (Ev.neg (by omega) (Ev.now _)) (Ev.eq (Ev.now _) ?_))
      rw [show paySize f st g size days = Int.tdiv (payDay f st days * g + 99) 100 from if_pos q, a, e, show payDay f st days * g + 100 - 1 = payDay f st days * g + 99 by omega, b, c]
    · exact Ev.neg q (Ev.eq (Ev.now _) (show payDay f st days = paySize f st g size days from (if_neg q).symm))
  have m : 0 ≤ mn days f ∧ mn days f ≤ days := by unfold mn; split <;> omega
  have main : ∀ d i : Nat, i + 1 + d = st.length → ∀ left : Int, 0 ≤ left → ∀ (pre : List Int) (s : Int), pre.length = i → 0 ≤ s → pre ++ splitAt' st d i left = splitAt' st (st.length - 1) 0 (days - mn days f) → s + payAt st d i left = payDay f st days →
      Ev (fun k => impl_stayCharge.l0 k size s (pre ++ splitAt' st d i left) st.length i f st g) (paySize f st g size days) := by
    intro d
    induction d with
    | zero =>
      intro i hi left l0 pre s hp hs he hv
      obtain ⟨_, o1, o2⟩ := h3 i (by omega)
      have li : (i : Int) < st.length := by omega
      have i0 : (0 : Int) ≤ i := by omega
      have ln : (pre ++ splitAt' st 0 i left).length = st.length := by rw [List.length_append, splitAt_length]; omega
      have ll : (i : Int) < (pre ++ splitAt' st 0 i left).length := by rw [ln]; exact li
      have e1 : rd (pre ++ splitAt' st 0 i left) i = left := by unfold rd; rw [Int.toNat_natCast, List.getD_eq_getElem?_getD, ← hp, List.getElem?_append_right (Nat.le_refl _), Nat.sub_self]; rfl
      have pv : payAt st 0 i left = left * (rd_T51 st i).f1 := rfl
      have c := Int.mul_nonneg l0 o1
      rw [pv] at hv
      have w2 : wrap64 (s + wrap64 (rd (pre ++ splitAt' st 0 i left) i * (rd_T51 st i).f1)) = payDay f st days := by
        rw [e1]
        generalize left * (rd_T51 st i).f1 = u at c hv ⊢
        generalize payDay f st days = v at P0 P1 hv ⊢
        rw [w64 (x := u) (by omega) (by omega), hv]
        exact w64 (by omega) (by omega)
      have q1 : i + 1 = st.length := by omega
      have w1 : wrap64 ((i : Int) + 1) = ((i + 1 : Nat) : Int) := by rw [w64 (by omega) (by omega)]; rfl
      refine Ev.step (fun k => impl_stayCharge.l0.eq_2 ..) (Ev.pos li (Ev.pos i0 (Ev.pos ll (Ev.pos li ?_))))
      rw [w1, w2, he, q1]
      exact fin
    | succ d ih =>
      intro i hi left l0 pre s hp hs he hv
      obtain ⟨⟨p1, p2⟩, o1, o2⟩ := h3 i (by omega)
      have mm : 0 ≤ mn left (rd_T51 st i).f0 ∧ mn left (rd_T51 st i).f0 ≤ left := by unfold mn; split <;> omega
      have E : splitAt' st (d + 1) i left = mn left (rd_T51 st i).f0 :: splitAt' st d (i + 1) (left - mn left (rd_T51 st i).f0) := rfl
      obtain ⟨m0, m1⟩ := mm
      have pv : payAt st (d + 1) i left = mn left (rd_T51 st i).f0 * (rd_T51 st i).f1 + payAt st d (i + 1) (left - mn left (rd_T51 st i).f0) := rfl
      rw [pv] at hv
      rw [E] at he
      have li : (i : Int) < st.length := by omega
      have i0 : (0 : Int) ≤ i := by omega
      generalize hx : mn left (rd_T51 st i).f0 = x at m0 m1 hv he E
      have A : pre ++ x :: splitAt' st d (i + 1) (left - x) = (pre ++ [x]) ++ splitAt' st d (i + 1) (left - x) := by rw [List.append_assoc]; rfl
      have ln : (pre ++ x :: splitAt' st d (i + 1) (left - x)).length = st.length := by rw [List.length_append, List.length_cons, splitAt_length]; omega
      have ll : (i : Int) < (pre ++ x :: splitAt' st d (i + 1) (left - x)).length := by rw [ln]; exact li
      have e1 : rd (pre ++ x :: splitAt' st d (i + 1) (left - x)) i = x := by unfold rd; rw [Int.toNat_natCast, List.getD_eq_getElem?_getD, ← hp, List.getElem?_append_right (Nat.le_refl _), Nat.sub_self]; rfl
      have c := Int.mul_nonneg m0 o1
      have b := (payAt_bounds st h3 d (i + 1) (by omega) (left - x) (by omega)).1
      have hq : (pre ++ [x]).length = i + 1 := by rw [List.length_append, List.length_singleton]; omega
      have r := ih (i + 1) (by omega) (left - x) (by omega) (pre ++ [x]) (s + x * (rd_T51 st i).f1) hq (by omega) (by rw [← A]; exact he) (by omega)
      rw [← A] at r
      have w2 : wrap64 (s + wrap64 (x * (rd_T51 st i).f1)) = s + x * (rd_T51 st i).f1 := by
        generalize x * (rd_T51 st i).f1 = u at c hv ⊢
        generalize payAt st d (i + 1) (left - x) = v at b hv
        generalize payDay f st days = z at P0 P1 hv
        rw [w64 (x := u) (by omega) (by omega)]
        exact w64 (by omega) (by omega)
      have w1 : wrap64 ((i : Int) + 1) = ((i + 1 : Nat) : Int) := by rw [w64 (by omega) (by omega)]; rfl
      rw [E]
      refine Ev.step (fun k => impl_stayCharge.l0.eq_2 ..) (Ev.pos li (Ev.pos i0 (Ev.pos ll (Ev.pos li ?_))))
      rw [w1, e1, w2]
      exact r
  have z := main (st.length - 1) 0 (by omega) (days - mn days f) (by omega) [] 0 rfl (by omega) rfl (by rw [Int.zero_add]; rfl)
  unfold impl_stayCharge.f
  refine Ev.bind sp (Ev.pos ?_ (Ev.some ?_))
  · unfold splitDay
    rw [List.length_cons, splitAt_length]
    omega
  · have e : (splitDay f st days).drop 1 = splitAt' st (st.length - 1) 0 (days - mn days f) := rfl
    have ln : (splitAt' st (st.length - 1) 0 (days - mn days f)).length = st.length := by rw [splitAt_length]; omega
    rw [e, ln]
    exact z

/-- Both tell what a stay costs. -/
theorem stayBoth (f : Int) (st : List S51) (hl : st.length ≤ 1048577) (g size days : Int) : ∃ r : Int × Bool, Ev (fun k => spec_StayCharge.f k f st g size days) r ∧ Ev (fun k => impl_StayCharge.f k f st g size days) r := by
  obtain ⟨b, h1, h2, h3⟩ := asked f st hl g size days
  unfold spec_StayCharge.f impl_StayCharge.f
  by_cases c : b = true
  · obtain ⟨hg, _, d0, d1⟩ := h3.1 c
    have sp := specPay f st g hg size days.toNat (by omega)
    rw [Int.toNat_of_nonneg d0] at sp
    exact ⟨_, Ev.bind h1 (Ev.pos c (Ev.bind sp (Ev.now _))), Ev.bind h2 (Ev.pos c (Ev.bind (implPay f st g hg size days d0 d1) (Ev.now _)))⟩
  · exact ⟨_, Ev.bind h1 (Ev.neg c (Ev.now _)), Ev.bind h2 (Ev.neg c (Ev.now _))⟩


theorem splitAt_zero (st : List S51) (h3 : ∀ j : Nat, j < st.length → stepOk (rd_T51 st j)) : ∀ d i : Nat, i + 1 + d = st.length → splitAt' st d i 0 = List.replicate (d + 1) 0 := by
  intro d
  induction d with
  | zero => intro i _; rfl
  | succ d ih =>
    intro i hi
    have := (h3 i (by omega)).1
    have e : mn 0 (rd_T51 st i).f0 = 0 := if_neg (by omega)
    rw [show splitAt' st (d + 1) i 0 = mn 0 (rd_T51 st i).f0 :: splitAt' st d (i + 1) (0 - mn 0 (rd_T51 st i).f0) from rfl, e, Int.sub_self, ih (i + 1) (by omega)]
    rfl
theorem splitAt_bound (st : List S51) (h3 : ∀ j : Nat, j < st.length → stepOk (rd_T51 st j)) : ∀ d i : Nat, i + 1 + d = st.length → ∀ left : Int, 0 ≤ left → ∀ j : Nat, 0 ≤ (splitAt' st d i left).getD j 0 ∧ (splitAt' st d i left).getD j 0 ≤ left := by
  intro d
  induction d with
  | zero =>
    intro i hi left l0 j
    cases j with
    | zero => exact ⟨l0, Int.le_refl _⟩
    | succ j => exact ⟨Int.le_refl _, l0⟩
  | succ d ih =>
    intro i hi left l0 j
    have := (h3 i (by omega)).1
    have m : 0 ≤ mn left (rd_T51 st i).f0 ∧ mn left (rd_T51 st i).f0 ≤ left := by unfold mn; split <;> omega
    cases j with
    | zero => exact m
    | succ j =>
      obtain ⟨a, b⟩ := ih (i + 1) (by omega) (left - mn left (rd_T51 st i).f0) (by omega) j
      exact ⟨a, Int.le_trans b (by omega)⟩
theorem splitAt_succ (st : List S51) (h3 : ∀ j : Nat, j < st.length → stepOk (rd_T51 st j)) : ∀ d i : Nat, i + 1 + d = st.length → ∀ left : Int, 0 ≤ left →
    splitAt' st d i (left + 1) = (splitAt' st d i left).set (stepOff st d i (left + 1)) ((splitAt' st d i left).getD (stepOff st d i (left + 1)) 0 + 1) := by
  intro d
  induction d with
  | zero => intro i hi left l0; rfl
  | succ d ih =>
    intro i hi left l0
    have := (h3 i (by omega)).1
    have E : ∀ x : Int, splitAt' st (d + 1) i x = mn x (rd_T51 st i).f0 :: splitAt' st d (i + 1) (x - mn x (rd_T51 st i).f0) := fun _ => rfl
    have O : stepOff st (d + 1) i (left + 1) = if left + 1 ≤ (rd_T51 st i).f0 then 0 else stepOff st d (i + 1) (left + 1 - (rd_T51 st i).f0) + 1 := rfl
    rw [E, E, O]
    by_cases c : left + 1 ≤ (rd_T51 st i).f0
    · have e1 : mn (left + 1) (rd_T51 st i).f0 = left + 1 := if_neg (by omega)
      have e2 : mn left (rd_T51 st i).f0 = left := if_neg (by omega)
      rw [e1, e2, if_pos c, Int.sub_self, Int.sub_self]
      rfl
    · have e1 : mn (left + 1) (rd_T51 st i).f0 = (rd_T51 st i).f0 := if_pos (by omega)
      have e2 : mn left (rd_T51 st i).f0 = (rd_T51 st i).f0 := by unfold mn; split <;> omega
      have h := ih (i + 1) (by omega) (left - (rd_T51 st i).f0) (by omega)
      have e3 : left + 1 - (rd_T51 st i).f0 = left - (rd_T51 st i).f0 + 1 := by omega
      rw [e1, e2, if_neg c, e3, h]
      rfl
theorem splitDay_length (f : Int) (st : List S51) (g : Int) (h : Good f st g) (days : Int) : (splitDay f st days).length = st.length + 1 := by
  have := h.2.1.1
  unfold splitDay
  rw [List.length_cons, splitAt_length]
  omega
/-- One day more: the count of its step grows by one. -/
theorem splitDay_succ (f : Int) (st : List S51) (g : Int) (h : Good f st g) (days : Int) (d0 : 0 ≤ days) (d1 : days ≤ 400) :
    (splitDay f st days).set (stepDay f st (days + 1) + 1).toNat (wrap64 (rd (splitDay f st days) (stepDay f st (days + 1) + 1) + 1)) = splitDay f st (days + 1) := by
  obtain ⟨h0, h1, h2, h3⟩ := h
  unfold splitDay stepDay
  by_cases c : days + 1 ≤ f
  · have e1 : mn (days + 1) f = days + 1 := if_neg (by omega)
    have e2 : mn days f = days := if_neg (by omega)
    rw [if_pos c, e1, e2, Int.sub_self, Int.sub_self]
    show (days :: _).set 0 (wrap64 (days + 1)) = _
    rw [w64 (by omega) (by omega)]
    rfl
  · have e1 : mn (days + 1) f = f := if_pos (by omega)
    have e2 : mn days f = f := by unfold mn; split <;> omega
    have e3 : days + 1 - f = days - f + 1 := by omega
    have s := splitAt_succ st h3 (st.length - 1) 0 (by omega) (days - f) (by omega)
    obtain ⟨b0, b1⟩ := splitAt_bound st h3 (st.length - 1) 0 (by omega) (days - f) (by omega) (stepOff st (st.length - 1) 0 (days - f + 1))
    rw [if_neg c, e1, e2, e3, s]
    have t : ((stepOff st (st.length - 1) 0 (days - f + 1) : Int) + 1).toNat = stepOff st (st.length - 1) 0 (days - f + 1) + 1 := by omega
    unfold rd
    rw [t]
    show f :: (splitAt' st (st.length - 1) 0 (days - f)).set _ (wrap64 ((splitAt' st (st.length - 1) 0 (days - f)).getD _ 0 + 1)) = _
    rw [w64 (by omega) (by omega)]
theorem splitDay_zero (f : Int) (st : List S51) (g : Int) (h : Good f st g) : splitDay f st 0 = List.replicate (st.length + 1) 0 := by
  obtain ⟨h0, h1, h2, h3⟩ := h
  have m : mn 0 f = 0 := if_neg (by omega)
  unfold splitDay
  rw [m, Int.sub_self, splitAt_zero st h3 _ 0 (by omega), show st.length - 1 + 1 = st.length by omega]
  rfl
/-- Both part a stay. -/


theorem implStep (f : Int) (st : List S51) (g : Int) (h : Good f st g) (day : Int) (d0 : 0 ≤ day) (d1 : day ≤ 401) : Ev (fun k => impl_stepOn.f k f st g day) (stepDay f st day) := by
  obtain ⟨h0, h1, h2, h3⟩ := h
  have main : ∀ d i : Nat, i + 1 + d = st.length → ∀ left : Int, 0 < left → left ≤ 401 → Ev (fun k => impl_stepOn.l0 k left st st.length i f st g) ((i + stepOff st d i left : Nat) : Int) := by
    intro d
    induction d with
    | zero =>
      intro i hi left l0 l1
      obtain ⟨⟨o1, o2⟩, _⟩ := h3 i (by omega)
      have w1 : wrap64 ((i : Int) + 1) = ((i + 1 : Nat) : Int) := by rw [w64 (by omega) (by omega)]; rfl
      refine Ev.step (fun k => impl_stepOn.l0.eq_2 ..) (Ev.pos (by omega) (Ev.pos (by omega) (Ev.pos (by omega) (Ev.ite (fun _ => Ev.now _) (fun _ => ?_)))))
      rw [w1]
      refine Ev.step (fun k => impl_stepOn.l0.eq_2 ..) (Ev.neg (by omega) (Ev.eq (Ev.now _) ?_))
      rw [w64 (by omega) (by omega), show stepOff st 0 i left = 0 from rfl]
      omega
    | succ d ih =>
      intro i hi left l0 l1
      obtain ⟨⟨o1, o2⟩, _⟩ := h3 i (by omega)
      have w1 : wrap64 ((i : Int) + 1) = ((i + 1 : Nat) : Int) := by rw [w64 (by omega) (by omega)]; rfl
      have w2 : wrap64 (left - (rd_T51 st i).f0) = left - (rd_T51 st i).f0 := w64 (by omega) (by omega)
      rw [show stepOff st (d + 1) i left = if left ≤ (rd_T51 st i).f0 then 0 else stepOff st d (i + 1) (left - (rd_T51 st i).f0) + 1 from rfl]
      refine Ev.step (fun k => impl_stepOn.l0.eq_2 ..) (Ev.pos (by omega) (Ev.pos (by omega) (Ev.pos (by omega) ?_)))
      by_cases c : left ≤ (rd_T51 st i).f0
      · rw [if_pos c]
        exact Ev.pos (by rw [w2]; omega) (Ev.now _)
      · rw [if_neg c]
        have := ih (i + 1) (by omega) (left - (rd_T51 st i).f0) (by omega) (by omega)
        rw [← w1, ← w2] at this
        refine Ev.neg (by rw [w2]; omega) (Ev.eq this ?_)
        rw [w2]
        omega
  unfold impl_stepOn.f stepDay
  have w0 : wrap64 (day - f) = day - f := w64 (by omega) (by omega)
  by_cases c : day ≤ f
  · rw [if_pos c]
    exact Ev.pos (by rw [w0]; omega) (Ev.now _)
  · rw [if_neg c]
    refine Ev.neg (by rw [w0]; omega) ?_
    rw [w0]
    exact Ev.eq (main (st.length - 1) 0 (by omega) (day - f) (by omega) (by omega)) (by simp)

/-- Both find the rate of a day. -/
theorem rateBoth (f : Int) (st : List S51) (hl : st.length ≤ 1048577) (g day : Int) : ∃ r : Int × Bool, Ev (fun k => spec_RateOn.f k f st g day) r ∧ Ev (fun k => impl_RateOn.f k f st g day) r := by
  obtain ⟨b, h1, h2, h3⟩ := good f st hl g
  unfold spec_RateOn.f impl_RateOn.f impl_StepOn.f
  by_cases c0 : b = true
  · have hg := h3.1 c0
    by_cases c1 : 1 ≤ day ∧ day ≤ 400
    · have im := implStep f st g hg day (by omega) (by omega)
      have lt := stepDay_lt f st g hg day
      have sp := specRate f st g hg day (by omega)
      refine ⟨(rateDay f st day, true), Ev.bind h1 (Ev.pos c0 (Ev.const (l1In_eq _ _ _) (Ev.pos (decide_eq_true c1) (Ev.bind sp (Ev.now _))))), Ev.bind (Ev.bind h2 (Ev.pos c0 (Ev.const (within_eq _ _ _) (Ev.pos (decide_eq_true c1) (Ev.bind im (Ev.now _)))))) (Ev.pos rfl ?_)⟩
      by_cases c : stepDay f st day < 0
      · exact Ev.pos c (Ev.eq (Ev.now _) (by rw [show rateDay f st day = 0 from if_pos c]))
      · exact Ev.neg c (Ev.pos (by omega) (Ev.pos (by omega) (Ev.eq (Ev.now _) (by rw [show rateDay f st day = (rd_T51 st (stepDay f st day)).f1 from if_neg c]))))
    · exact ⟨_, Ev.bind h1 (Ev.pos c0 (Ev.const (l1In_eq _ _ _) (Ev.neg (fun h => c1 (of_decide_eq_true h)) (Ev.now _)))), Ev.bind (Ev.bind h2 (Ev.pos c0 (Ev.const (within_eq _ _ _) (Ev.neg (fun h => c1 (of_decide_eq_true h)) (Ev.now _))))) (Ev.neg (by simp) (Ev.now _))⟩
  · exact ⟨_, Ev.bind h1 (Ev.neg c0 (Ev.now _)), Ev.bind (Ev.bind h2 (Ev.neg c0 (Ev.now _))) (Ev.neg (by simp) (Ev.now _))⟩


/-- Both find the step of a day. -/
theorem stepBoth (f : Int) (st : List S51) (hl : st.length ≤ 1048577) (g day : Int) : ∃ r : Int × Bool, Ev (fun k => spec_StepOn.f k f st g day) r ∧ Ev (fun k => impl_StepOn.f k f st g day) r := by
  obtain ⟨b, h1, h2, h3⟩ := good f st hl g
  unfold spec_StepOn.f impl_StepOn.f
  by_cases c0 : b = true
  · have hg := h3.1 c0
    by_cases c1 : 1 ≤ day ∧ day ≤ 400
    · exact ⟨_, Ev.bind h1 (Ev.pos c0 (Ev.const (l1In_eq _ _ _) (Ev.pos (decide_eq_true c1) (Ev.bind (specStep f st g hg day (by omega)) (Ev.now _))))), Ev.bind h2 (Ev.pos c0 (Ev.const (within_eq _ _ _) (Ev.pos (decide_eq_true c1) (Ev.bind (implStep f st g hg day (by omega) (by omega)) (Ev.now _)))))⟩
    · exact ⟨_, Ev.bind h1 (Ev.pos c0 (Ev.const (l1In_eq _ _ _) (Ev.neg (fun h => c1 (of_decide_eq_true h)) (Ev.now _)))), Ev.bind h2 (Ev.pos c0 (Ev.const (within_eq _ _ _) (Ev.neg (fun h => c1 (of_decide_eq_true h)) (Ev.now _))))⟩
  · exact ⟨_, Ev.bind h1 (Ev.neg c0 (Ev.now _)), Ev.bind h2 (Ev.neg c0 (Ev.now _))⟩


/-- Both find the longest stay. -/
theorem longestBoth (f : Int) (st : List S51) (hl : st.length ≤ 1048577) (g size amount : Int) : ∃ r : Int × Bool, Ev (fun k => spec_LongestStay.f k f st g size amount) r ∧ Ev (fun k => impl_LongestStay.f k f st g size amount) r := by
  obtain ⟨b, h1, h2, h3⟩ := asked f st hl g size 0
  unfold spec_LongestStay.f impl_LongestStay.f
  have js : Ev (fun k => spec_LongestStay.j0 k size amount true f st g) (0, false) := Ev.step (fun k => spec_LongestStay.j0.eq_2 ..) (Ev.pos rfl (Ev.now _))
  have ji : Ev (fun k => impl_LongestStay.j0 k size amount true f st g) (0, false) := Ev.step (fun k => impl_LongestStay.j0.eq_2 ..) (Ev.pos rfl (Ev.now _))
  by_cases c : b = true
  · obtain ⟨hg, _⟩ := h3.1 c
    by_cases c1 : 0 ≤ amount ∧ amount ≤ 10000000
    · have main : ∀ d i : Nat, i + d = 400 → ∃ r : Int × Bool, Ev (fun k => spec_LongestStay.l0 k size amount i ((i + 1 : Nat) : Int) f st g) r ∧ Ev (fun k => impl_LongestStay.l0 k size amount i f st g) r := by
        intro d
        induction d with
        | zero => intro i hi; exact ⟨_, Ev.step (fun k => spec_LongestStay.l0.eq_2 ..) (Ev.neg (by omega) (Ev.now _)), Ev.step (fun k => impl_LongestStay.l0.eq_2 ..) (Ev.neg (by omega) (Ev.now _))⟩
        | succ d ih =>
          intro i hi
          have w1 : wrap64 ((i : Int) + 1) = ((i + 1 : Nat) : Int) := by rw [w64 (by omega) (by omega)]; rfl
          have w2 : wrap64 (((i + 1 : Nat) : Int) + 1) = ((i + 1 + 1 : Nat) : Int) := by rw [w64 (by omega) (by omega)]; rfl
          have sp := specPay f st g hg size (i + 1) (by omega)
          have im := implPay f st g hg size ((i + 1 : Nat) : Int) (by omega) (by omega)
          rw [← w1] at im
          by_cases q : paySize f st g size ((i + 1 : Nat) : Int) ≤ amount
          · obtain ⟨r, s1, s2⟩ := ih (i + 1) (by omega)
            rw [← w2] at s1
            refine ⟨r, Ev.step (fun k => spec_LongestStay.l0.eq_2 ..) (Ev.pos (by omega) (Ev.bind sp (Ev.pos q s1))), Ev.step (fun k => impl_LongestStay.l0.eq_2 ..) (Ev.pos (by omega) (Ev.bind im (Ev.pos (by rw [w1]; exact q) ?_)))⟩
            rw [w1]
            exact s2
          · exact ⟨_, Ev.step (fun k => spec_LongestStay.l0.eq_2 ..) (Ev.pos (by omega) (Ev.bind sp (Ev.neg q (Ev.now _)))), Ev.step (fun k => impl_LongestStay.l0.eq_2 ..) (Ev.pos (by omega) (Ev.bind im (Ev.neg (by rw [w1]; exact q) (Ev.now _))))⟩
      obtain ⟨r, s1, s2⟩ := main 400 0 (by omega)
      refine ⟨r, Ev.bind h1 (Ev.pos c (Ev.const (l1In_eq _ _ _) (Ev.step (fun k => spec_LongestStay.j0.eq_2 ..) (Ev.neg ?_ s1)))), Ev.bind h2 (Ev.pos c (Ev.const (within_eq _ _ _) (Ev.step (fun k => impl_LongestStay.j0.eq_2 ..) (Ev.neg ?_ s2))))⟩ <;>
      · rw [decide_eq_true c1]
        exact fun h => by cases h
    · refine ⟨(0, false), Ev.bind h1 (Ev.pos c (Ev.const (l1In_eq _ _ _) ?_)), Ev.bind h2 (Ev.pos c (Ev.const (within_eq _ _ _) ?_))⟩
      · rw [decide_eq_false c1]; exact js
      · rw [decide_eq_false c1]; exact ji
  · exact ⟨_, Ev.bind h1 (Ev.neg c js), Ev.bind h2 (Ev.neg c ji)⟩

/-- What a stay costs, as both say it. -/
theorem stayR (f : Int) (st : List S51) (hl : st.length ≤ 1048577) (g size days : Int) : ∃ r : Int × Bool, Ev (fun k => spec_StayCharge.f k f st g size days) r ∧ Ev (fun k => impl_StayCharge.f k f st g size days) r ∧
    (r.2 = true ↔ Asked f st g size days) ∧ (r.2 = true → r.1 = paySize f st g size days) := by
  obtain ⟨r, r1, r2⟩ := stayBoth f st hl g size days
  refine ⟨r, r1, r2, ?_⟩
  obtain ⟨b, h1, h2, h3⟩ := asked f st hl g size days
  unfold impl_StayCharge.f at r2
  by_cases c : b = true
  · have ha := h3.1 c
    have e := Ev.funct r2 (Ev.bind h2 (Ev.pos c (Ev.bind (implPay f st g ha.1 size days ha.2.2.1 ha.2.2.2) (Ev.now _))))
    rw [e]
    exact ⟨⟨fun _ => ha, fun _ => rfl⟩, fun _ => rfl⟩
  · have e := Ev.funct r2 (Ev.bind h2 (Ev.neg c (Ev.now _)))
    rw [e]
    exact ⟨⟨fun h => (by cases h), fun h => absurd (h3.2 h) c⟩, fun h => (by cases h)⟩
theorem rateDay_nonneg (f : Int) (st : List S51) (g : Int) (h : Good f st g) (day : Int) : 0 ≤ rateDay f st day := by
  have lt := stepDay_lt f st g h day
  unfold rateDay
  by_cases c : stepDay f st day < 0
  · rw [if_pos c]
    exact Int.le_refl _
  · rw [if_neg c]
    have := (h.2.2.2 (stepDay f st day).toNat (by omega)).2.1
    rwa [Int.toNat_of_nonneg (by omega)] at this
theorem paySize_succ (f : Int) (st : List S51) (g : Int) (h : Good f st g) (size days : Int) (d0 : 0 ≤ days) (d1 : days ≤ 400) : paySize f st g size days ≤ paySize f st g size (days + 1) := by
  have e := payDay_succ f st g h days d0
  have r := rateDay_nonneg f st g h (days + 1)
  have b := (payDay_bounds f st g h days d0 d1).1
  have g0 := h.2.2.1.1
  unfold paySize
  by_cases c : size = 2
  · rw [if_pos c, if_pos c, e]
    have m : payDay f st days * g ≤ (payDay f st days + rateDay f st (days + 1)) * g := Int.mul_le_mul_of_nonneg_right (by omega) (by omega)
    have m0 := Int.mul_nonneg b (show 0 ≤ g by omega)
    generalize payDay f st days * g = u at *
    generalize (payDay f st days + rateDay f st (days + 1)) * g = v at *
    rw [Int.tdiv_eq_ediv_of_nonneg (by omega), Int.tdiv_eq_ediv_of_nonneg (by omega)]
    omega
  · rw [if_neg c, if_neg c, e]
    omega
theorem paySize_zero (f : Int) (st : List S51) (g : Int) (h : Good f st g) (size : Int) : paySize f st g size 0 = 0 := by
  unfold paySize
  rw [payDay_zero f st g h]
  by_cases c : size = 2
  · rw [if_pos c, Int.zero_mul]
    rfl
  · rw [if_neg c]
/-- The longest stay for an amount: it can be paid for, and a longer one cannot. -/
theorem longestR (f : Int) (st : List S51) (hl : st.length ≤ 1048577) (g size amount : Int) : ∃ r : Int × Bool, Ev (fun k => spec_LongestStay.f k f st g size amount) r ∧ Ev (fun k => impl_LongestStay.f k f st g size amount) r ∧
    (r.2 = true → Asked f st g size r.1 ∧ paySize f st g size r.1 ≤ amount ∧ (r.1 < 400 → amount < paySize f st g size (r.1 + 1))) := by
  obtain ⟨r, r1, r2⟩ := longestBoth f st hl g size amount
  refine ⟨r, r1, r2, fun hr => ?_⟩
  obtain ⟨b, h1, h2, h3⟩ := asked f st hl g size 0
  unfold impl_LongestStay.f at r2
  have ji : Ev (fun k => impl_LongestStay.j0 k size amount true f st g) (0, false) := Ev.step (fun k => impl_LongestStay.j0.eq_2 ..) (Ev.pos rfl (Ev.now _))
  by_cases c : b = true
  · obtain ⟨hg, hs, _⟩ := h3.1 c
    by_cases c1 : 0 ≤ amount ∧ amount ≤ 10000000
    · have main : ∀ d i : Nat, i + d = 400 → paySize f st g size i ≤ amount → ∃ n : Int, Ev (fun k => impl_LongestStay.l0 k size amount i f st g) (n, true) ∧ 0 ≤ n ∧ n ≤ 400 ∧ paySize f st g size n ≤ amount ∧ (n < 400 → amount < paySize f st g size (n + 1)) := by
        intro d
        induction d with
        | zero => intro i hi hp; exact ⟨i, Ev.step (fun k => impl_LongestStay.l0.eq_2 ..) (Ev.neg (by omega) (Ev.now _)), by omega, by omega, hp, fun h => by omega⟩
        | succ d ih =>
          intro i hi hp
          have im := implPay f st g hg size ((i + 1 : Nat) : Int) (by omega) (by omega)
          have w1 : wrap64 ((i : Int) + 1) = ((i + 1 : Nat) : Int) := by rw [w64 (by omega) (by omega)]; rfl
          rw [← w1] at im
          by_cases q : paySize f st g size ((i + 1 : Nat) : Int) ≤ amount
          · obtain ⟨n, s1, s2⟩ := ih (i + 1) (by omega) q
            refine ⟨n, Ev.step (fun k => impl_LongestStay.l0.eq_2 ..) (Ev.pos (by omega) (Ev.bind im (Ev.pos (by rw [w1]; exact q) ?_))), s2⟩
            rw [w1]
            exact s1
          · exact ⟨i, Ev.step (fun k => impl_LongestStay.l0.eq_2 ..) (Ev.pos (by omega) (Ev.bind im (Ev.neg (by rw [w1]; exact q) (Ev.now _)))), by omega, by omega, hp, fun _ => Int.not_le.1 q⟩
      obtain ⟨n, s1, s2, s3, s4, s5⟩ := main 400 0 (by omega) (by rw [Int.natCast_zero, paySize_zero f st g hg]; exact c1.1)
      have e := Ev.funct r2 (Ev.bind h2 (Ev.pos c (Ev.const (within_eq _ _ _) (Ev.step (fun k => impl_LongestStay.j0.eq_2 ..) (Ev.neg (by rw [decide_eq_true c1]; exact fun h => by cases h) s1)))))
      rw [e]
      exact ⟨⟨hg, hs, s2, s3⟩, s4, s5⟩
    · have e := Ev.funct r2 (Ev.bind h2 (Ev.pos c (Ev.const (within_eq _ _ _) (by rw [decide_eq_false c1]; exact ji))))
      rw [e] at hr
      cases hr
  · have e := Ev.funct r2 (Ev.bind h2 (Ev.neg c ji))
    rw [e] at hr
    cases hr
theorem splitAt_sum (st : List S51) : ∀ d i : Nat, ∀ left : Int, ((splitAt' st d i left).foldr (· + ·) 0 : Int) = left := by
  intro d
  induction d with
  | zero => intro i left; show left + 0 = left; omega
  | succ d ih =>
    intro i left
    show mn left _ + ((splitAt' st d (i + 1) _).foldr (· + ·) 0 : Int) = left
    rw [ih]
    omega
theorem splitDay_sum (f : Int) (st : List S51) (days : Int) : ((splitDay f st days).foldr (· + ·) 0 : Int) = days := by
  show mn days f + ((splitAt' st _ 0 _).foldr (· + ·) 0 : Int) = days
  rw [splitAt_sum]
  omega
/-- The parts of a stay. -/
theorem splitR (f : Int) (st : List S51) (hl : st.length ≤ 1048577) (g days : Int) (h : Asked f st g 1 days) : Ev (fun k => impl_SplitStay.f k f st g days) (splitDay f st days, true) := by
  obtain ⟨b, h1, h2, h3⟩ := asked f st hl g 1 days
  unfold impl_SplitStay.f
  exact Ev.bind h2 (Ev.pos (h3.2 h) (Ev.bind (implSplit f st g h.1 days h.2.2.1 h.2.2.2) (Ev.now _)))
/-- The sum of a list of small numbers. -/
theorem rSum_at (xs : List Int) (hl : xs.length ≤ 1000000) : ∀ d i : Nat, i + d = xs.length → ∀ a : Int, Ev (fun k => laws_rSum.l0 k xs a i) (wrap64 (a + (xs.drop i).foldr (· + ·) 0)) ∨ ¬ (-9223372036854775808 ≤ a ∧ a ≤ 9223372036854775807) := by
  intro d
  induction d with
  | zero =>
    intro i hi a
    by_cases q : -9223372036854775808 ≤ a ∧ a ≤ 9223372036854775807
    · refine .inl (Ev.step (fun k => laws_rSum.l0.eq_2 ..) (Ev.neg (by omega) (Ev.eq (Ev.now _) ?_)))
      rw [List.drop_eq_nil_of_le (by omega)]
      show a = wrap64 (a + 0)
      rw [Int.add_zero, w64 q.1 q.2]
    · exact .inr q
  | succ d ih =>
    intro i hi a
    refine .inl (Ev.step (fun k => laws_rSum.l0.eq_2 ..) (Ev.pos (by omega) (Ev.pos (by omega) ?_)))
    have ht : rd xs i = xs[i]'(by omega) := by
      unfold rd
      rw [Int.toNat_natCast]
      exact getD_of (List.getElem?_eq_getElem (by omega))
    rw [show wrap64 ((i : Int) + 1) = ((i + 1 : Nat) : Int) from by rw [w64 (by omega) (by omega)]; rfl]
    rcases ih (i + 1) (by omega) (wrap64 (a + rd xs i)) with h | h
    · refine Ev.eq h ?_
      rw [List.drop_eq_getElem_cons (i := i) (by omega), ht]
      show wrap64 (wrap64 (a + xs[i]'(by omega)) + _) = wrap64 (a + (xs[i]'(by omega) + _))
      generalize xs[i]'(by omega) = u
      generalize (xs.drop (i + 1)).foldr (· + ·) 0 = v
      unfold wrap64
      omega
    · exfalso
      apply h
      generalize a + rd xs i = u
      unfold wrap64
      omega
theorem rSum (xs : List Int) (hl : xs.length ≤ 1000000) (n : Int) (h : (xs.foldr (· + ·) 0 : Int) = n) (h0 : 0 ≤ n) (h1 : n ≤ 1000000) : Ev (fun k => laws_rSum.f k xs) n := by
  unfold laws_rSum.f
  rcases rSum_at xs hl xs.length 0 (by omega) 0 with q | q
  · refine Ev.eq q ?_
    rw [List.drop_zero, h, Int.zero_add]
    exact w64 (by omega) (by omega)
  · exact absurd (by omega) q
/-- Step and rate of a day. -/
theorem stepR (f : Int) (st : List S51) (hl : st.length ≤ 1048577) (g day : Int) : ∃ r q : Int × Bool, Ev (fun k => spec_StepOn.f k f st g day) r ∧ Ev (fun k => impl_StepOn.f k f st g day) r ∧ Ev (fun k => spec_RateOn.f k f st g day) q ∧ Ev (fun k => impl_RateOn.f k f st g day) q ∧ r.2 = q.2 ∧
    (q.2 = true → r.1 < st.length ∧ (r.1 < 0 → q.1 = 0) ∧ (0 ≤ r.1 → q.1 = (rd_T51 st r.1).f1)) := by
  obtain ⟨r, r1, r2⟩ := stepBoth f st hl g day
  obtain ⟨q, q1, q2⟩ := rateBoth f st hl g day
  refine ⟨r, q, r1, r2, q1, q2, ?_⟩
  obtain ⟨b, h1, h2, h3⟩ := good f st hl g
  unfold spec_RateOn.f at q1
  unfold impl_StepOn.f at r2
  by_cases c0 : b = true
  · have hg := h3.1 c0
    by_cases c1 : 1 ≤ day ∧ day ≤ 400
    · have lt := stepDay_lt f st g hg day
      have e1 := Ev.funct r2 (Ev.bind h2 (Ev.pos c0 (Ev.const (within_eq _ _ _) (Ev.pos (decide_eq_true c1) (Ev.bind (implStep f st g hg day (by omega) (by omega)) (Ev.now _))))))
      have e2 := Ev.funct q1 (Ev.bind h1 (Ev.pos c0 (Ev.const (l1In_eq _ _ _) (Ev.pos (decide_eq_true c1) (Ev.bind (specRate f st g hg day (by omega)) (Ev.now _))))))
      rw [e1, e2]
      refine ⟨rfl, fun _ => ⟨lt.2, fun h => if_pos h, fun h => if_neg (by simp only at h; omega)⟩⟩
    · have e1 := Ev.funct r2 (Ev.bind h2 (Ev.pos c0 (Ev.const (within_eq _ _ _) (Ev.neg (fun h => c1 (of_decide_eq_true h)) (Ev.now _)))))
      have e2 := Ev.funct q1 (Ev.bind h1 (Ev.pos c0 (Ev.const (l1In_eq _ _ _) (Ev.neg (fun h => c1 (of_decide_eq_true h)) (Ev.now _)))))
      rw [e1, e2]
      exact ⟨rfl, fun h => (by cases h)⟩
  · have e1 := Ev.funct r2 (Ev.bind h2 (Ev.neg c0 (Ev.now _)))
    have e2 := Ev.funct q1 (Ev.bind h1 (Ev.neg c0 (Ev.now _)))
    rw [e1, e2]
    exact ⟨rfl, fun h => (by cases h)⟩

theorem charges5 {c : List Int} (hc : Bytes c) : Has (fun k => laws_FnCharges.j5 k c) (fun r => r = true) := by
  refine Has.step (fun k => laws_FnCharges.j5.eq_2 ..) ?_
  unfold spec_DrawRateOn.f
  have dr : Has (fun k => (spec_l1Cur_charge.f k c 0 0).bind fun bt336 => ((spec_l1Cur_stay.f c bt336.2.2.2.1 bt336.2.2.2.2).bind fun bt344 => (some (bt336.1, bt336.2.1, bt336.2.2.1, bt344.1)))) (fun r => r.2.1.length ≤ 30) :=
    Has.bind (draw_charge hc 0 (by omega) (by omega)) fun a ⟨a1, a2, a3⟩ => Has.bind (draw_stay hc a.2.2.2.2 (by omega) (by omega)) fun b _ => Has.now a1
  refine Has.bind dr fun x hx => ?_
  obtain ⟨r, q, r1, r2, q1, q2, e, h⟩ := stepR x.1 x.2.1 (by omega) x.2.2.1 x.2.2.2
  refine Has.ev q2 (Has.ev r2 (Has.ev q1 (Has.ev r1 (Has.pos rfl (Has.neg (by simp) (Has.pos rfl (Has.neg (by simp [e]) (Has.ite (fun hq => ?_) (fun _ => Has.now rfl)))))))))
  obtain ⟨k1, k2, k3⟩ := h hq
  by_cases n : r.1 < 0
  · exact Has.pos n (Has.pos (k2 n) (Has.now rfl))
  · exact Has.neg n (Has.pos (by omega) (Has.pos (by omega) (Has.pos k1 (Has.now (by rw [k3 (by omega)]; simp)))))
theorem charges2 {c : List Int} (hc : Bytes c) : Has (fun k => laws_FnCharges.j2 k c) (fun r => r = true) := by
  refine Has.step (fun k => laws_FnCharges.j2.eq_2 ..) ?_
  unfold spec_DrawLongestStay.f
  refine Has.bind (P := fun r => r.2.1.length ≤ 30) ?_ fun x hx => ?_
  · refine Has.bind (draw_charge hc 0 (by omega) (by omega)) fun a ⟨a1, a2, a3⟩ => Has.bind (draw_size22 hc a.2.2.2.2 (by omega) (by omega)) fun b ⟨b1, b2⟩ => ?_
    exact Has.val (amongCut hc b.2.2 _ 6 (by omega) (by simp) (by simp) (by omega) (by omega) fun r _ _ _ => Has.now a1)
  obtain ⟨r, r1, r2, r3⟩ := longestR x.1 x.2.1 (by omega) x.2.2.1 x.2.2.2.1 x.2.2.2.2
  refine Has.ev r2 (Has.ev r1 (Has.pos rfl (Has.step (fun k => laws_FnCharges.j3.eq_2 ..) (Has.neg (by simp) (Has.ite (fun hr => ?_) (fun _ => charges5 hc))))))
  obtain ⟨ha, h1, h2⟩ := r3 hr
  obtain ⟨s, _, s2, s3, s4⟩ := stayR x.1 x.2.1 (by omega) x.2.2.1 x.2.2.2.1 r.1
  have hs := s3.2 ha
  have e := s4 hs
  refine Has.ev s2 (Has.pos hs (Has.step (fun k => laws_FnCharges.j4.eq_2 ..) (Has.neg (by rw [e]; simpa using h1) ?_)))
  have hd := ha.2.2
  rw [show wrap64 (r.1 + 1) = r.1 + 1 from w64 (by omega) (by omega)]
  obtain ⟨t, _, t2, t3, t4⟩ := stayR x.1 x.2.1 (by omega) x.2.2.1 x.2.2.2.1 (r.1 + 1)
  refine Has.ev t2 (Has.ite (fun ht => Has.neg ?_ (charges5 hc)) (fun _ => charges5 hc))
  have hd2 := (t3.1 ht).2.2
  have := h2 (by omega)
  rw [t4 ht]
  omega
theorem FnCharges : ∀ (l0 : (List Int)), (l0.length ≤ 9223372036854775807 ∧ ∀ x ∈ l0, (Lit.int .u8 x).wf = true) → ∃ k, laws_FnCharges.f k l0 = some true := by
  intro l0 ⟨_, hw⟩
  have hc : Bytes l0 := bytes_wf hw
  suffices h : Has (fun k => laws_FnCharges.f k l0) (fun r => r = true) by
    obtain ⟨r, hr, rfl⟩ := h
    exact Ev.rounds hr
  unfold laws_FnCharges.f laws_rBig.f
  refine Has.val (Has.ite (fun _ => Has.now rfl) (fun _ => ?_))
  unfold spec_DrawStayCharge.f
  refine Has.bind (P := fun r => r.2.1.length ≤ 30 ∧ -1 ≤ r.2.2.2.2 ∧ r.2.2.2.2 ≤ 401) ?_ fun x ⟨hx, hd, hd2⟩ => ?_
  · exact Has.bind (draw_charge hc 0 (by omega) (by omega)) fun a ⟨a1, a2, a3⟩ => Has.bind (draw_size22 hc a.2.2.2.2 (by omega) (by omega)) fun b ⟨b1, b2⟩ => Has.bind (draw_stay hc b.2.2 (by omega) (by omega)) fun d ⟨d1, d2, _⟩ => Has.now ⟨a1, d2, d1⟩
  obtain ⟨r, r1, r2, r3, r4⟩ := stayR x.1 x.2.1 (by omega) x.2.2.1 x.2.2.2.1 x.2.2.2.2
  refine Has.ev r2 (Has.ev r1 (Has.pos rfl (Has.neg (by simp) ?_)))
  by_cases hr : r.2 = true
  · have ha := r3.1 hr
    obtain ⟨b, _, b2, b3⟩ := good x.1 x.2.1 (by omega) x.2.2.1
    have hb := b3.2 ha.1
    refine Has.pos hr (Has.ev b2 (Has.step (fun k => laws_FnCharges.j0.eq_2 ..) (Has.neg (by simp [hb]) (Has.pos hr ?_))))
    rw [show wrap64 (x.2.2.2.2 + 1) = x.2.2.2.2 + 1 from w64 (by omega) (by omega)]
    obtain ⟨s, _, s2, s3, s4⟩ := stayR x.1 x.2.1 (by omega) x.2.2.1 x.2.2.2.1 (x.2.2.2.2 + 1)
    have rest : Has (fun k => laws_FnCharges.j1 k l0 x.2.2.2.2 false x.1 x.2.1 x.2.2.1) (fun r => r = true) := by
      have dd := ha.2.2
      have sp := splitR x.1 x.2.1 (by omega) x.2.2.1 x.2.2.2.2 ⟨ha.1, by omega, ha.2.2⟩
      have ln := splitDay_length x.1 x.2.1 x.2.2.1 ha.1 x.2.2.2.2
      have su := splitDay_sum x.1 x.2.1 x.2.2.2.2
      refine Has.step (fun k => laws_FnCharges.j1.eq_2 ..) (Has.neg (by simp) (Has.ev sp (Has.pos rfl (Has.ev (rSum _ (by simp only [ln]; omega) _ su dd.1 (by omega)) (Has.pos rfl ?_)))))
      rw [show wrap64 ((x.2.1.length : Int) + 1) = ((x.2.1.length + 1 : Nat) : Int) from by rw [w64 (by omega) (by omega)]; rfl]
      simp only [ln]
      refine Has.pos trivial (Has.pos (by omega) (Has.neg ?_ (charges2 hc)))
      show ¬ (mn x.2.2.2.2 x.1 > x.1)
      unfold mn
      split <;> omega
    refine Has.ev s2 (Has.ite (fun hs => ?_) (fun _ => rest))
    have m := paySize_succ x.1 x.2.1 x.2.2.1 ha.1 x.2.2.2.1 x.2.2.2.2 ha.2.2.1 ha.2.2.2
    rw [show decide (s.1 < r.1) = false from by rw [s4 hs, r4 hr]; simpa using m]
    exact rest
  · refine Has.neg hr (Has.step (fun k => laws_FnCharges.j0.eq_2 ..) (Has.neg (by simp) (Has.neg hr (charges2 hc))))
end Go.Proofs.Ytafdafmoiocjgaa.Pure
