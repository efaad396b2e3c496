/- The drawn tariffs: charges are recovered from their texts, and comparing them the other way round exchanges the answers. No condition beyond the listed variables' data, which the card ties to the program's text. -/
import Derived.Test.YtciecfaeeogdoaaGreatDoorInvFnTariffs
import Derived.Test.YtciecfaeeogdoaaGreatDoorWHelp
import Derived.Lib.Zigzag
import Derived.Lib.AtoiAllCases
namespace Go.Proofs.YtciecfaeeogdoaaGreatDoor.Pure
open Go.RowKit Go.Proofs.YtciecfaeeogdoaaGreatDoorW.PrintWords Go.Proofs.YtciecfaeeogdoaaGreatDoorW.PrintLast Go.Proofs.YtciecfaeeogdoaaGreatDoorW.PrintMore Go.Proofs.YtciecfaeeogdoaaGreatDoorW.Help Go.Proofs.YtciecfaeeogdoaaGreatDoor.PFnTariffs
set_option linter.unusedVariables false
theorem l1In_eq (a b c : Int) : spec_l1In.f a b c = some (decide (b ≤ a ∧ a ≤ c)) := by
 unfold spec_l1In.f
 by_cases h : b ≤ a <;> simp [h]
theorem within_eq (a b c : Int) : impl_within.f a b c = some (decide (b ≤ a ∧ a ≤ c)) := by
 unfold impl_within.f
 by_cases h : b ≤ a <;> simp [h]
theorem str_ext {s t : ByteArray} (h : s.data.toList = t.data.toList) : s = t := by
 obtain ⟨⟨a⟩⟩ := s;obtain ⟨⟨b⟩⟩ := t;have h' : a = b := h;rw [h']
theorem str_eq {s t : ByteArray} : s.toList = t.toList ↔ s = t := by
 rw [ByteArray.toList_eq, ByteArray.toList_eq]
 exact ⟨str_ext, fun h => by rw [h]⟩
def Has {α : Type} (g : Nat → Option α) (Q : α → Prop) : Prop := ∃ r, Ev g r ∧ Q r
theorem Has.bind {α β : Type} {g : Nat → Option α} {f : Nat → α → Option β} {P : α → Prop} {Q : β → Prop} (h : Has g P) (k : ∀ a, P a → Has (fun n => f n a) Q) : Has (fun n => (g n).bind (f n)) Q := by
 obtain ⟨a, h1, h2⟩ := h;obtain ⟨r, r1, r2⟩ := k a h2
 exact ⟨r, Ev.bind h1 r1, r2⟩
theorem Has.pos {α : Type} {c : Prop} [Decidable c] {A B : Nat → Option α} {Q : α → Prop} (h : c) (k : Has A Q) : Has (fun n => if c then A n else B n) Q := by
 obtain ⟨r, r1, r2⟩ := k
 exact ⟨r, Ev.pos h r1, r2⟩
theorem Has.neg {α : Type} {c : Prop} [Decidable c] {A B : Nat → Option α} {Q : α → Prop} (h : ¬ c) (k : Has B Q) : Has (fun n => if c then A n else B n) Q := by
 obtain ⟨r, r1, r2⟩ := k
 exact ⟨r, Ev.neg h r1, r2⟩
theorem Has.ite {α : Type} {c : Prop} [Decidable c] {A B : Nat → Option α} {Q : α → Prop} (h1 : c → Has A Q) (h2 : ¬ c → Has B Q) : Has (fun n => if c then A n else B n) Q := by
 by_cases h : c
 ·exact Has.pos h (h1 h)
 ·exact Has.neg h (h2 h)
theorem Has.now {α : Type} {a : α} {Q : α → Prop} (h : Q a) : Has (fun _ => some a) Q := ⟨a, Ev.now _, h⟩
theorem Has.step {α : Type} {g s : Nat → Option α} {Q : α → Prop} (e : ∀ k, g (k + 1) = s k) (h : Has s Q) : Has g Q := by
 obtain ⟨r, r1, r2⟩ := h
 exact ⟨r, Ev.step e r1, r2⟩
theorem Has.mono {α : Type} {g : Nat → Option α} {P Q : α → Prop} (h : Has g P) (k : ∀ a, P a → Q a) : Has g Q := by
 obtain ⟨r, r1, r2⟩ := h
 exact ⟨r, r1, k r r2⟩
theorem Has.val {α β : Type} {a : α} {f : Nat → α → Option β} {Q : β → Prop} (k : Has (fun n => f n a) Q) : Has (fun n => (some a).bind (f n)) Q := k
theorem Has.const {α β : Type} {o : Option α} {f : Nat → α → Option β} {a : α} {Q : β → Prop} (h : o = some a) (k : Has (fun n => f n a) Q) : Has (fun n => o.bind (f n)) Q := by
 obtain ⟨r, r1, r2⟩ := k
 exact ⟨r, Ev.const h r1, r2⟩
theorem Has.of {α : Type} {g : Nat → Option α} {r : α} {Q : α → Prop} (h : Ev g r) (k : Q r) : Has g Q := ⟨r, h, k⟩
theorem Has.ev {α β : Type} {g : Nat → Option α} {f : Nat → α → Option β} {a : α} {Q : β → Prop} (h : Ev g a) (k : Has (fun n => f n a) Q) : Has (fun n => (g n).bind (f n)) Q := by
 obtain ⟨r, r1, r2⟩ := k
 exact ⟨r, Ev.bind h r1, r2⟩
def Bytes (c : List Int) : Prop := ∀ x ∈ c, 0 ≤ x ∧ x ≤ 255
theorem bytes_wf {c : List Int} (h : ∀ x ∈ c, (Lit.int .u8 x).wf = true) : Bytes c := fun x hx => by
 have := h x hx
 simp [Lit.wf, IntKind.min, IntKind.max, IntKind.signed, IntKind.bits] at this
 omega
theorem byte_of (y : Int) : 0 ≤ y % 2 ^ 8 ∧ y % 2 ^ 8 ≤ 255 := by omega
theorem byte_w (z : Int) (h : 0 ≤ z ∧ z ≤ 255) : 0 ≤ wrap64 z ∧ wrap64 z ≤ 255 := by
 rw [w64 (by omega) (by omega)]
 exact h
theorem high_of (s : Int) : 0 ≤ IntKind.u64.wrap s / 1099511627776 ∧ IntKind.u64.wrap s / 1099511627776 < 2 ^ 64 := by
 rw [IntKind.wrap_u64]
 omega
theorem low_byte (s : Int) : 0 ≤ wrap64 (Go.bits .and .u64 (IntKind.u64.wrap s / 1099511627776) 255) ∧ wrap64 (Go.bits .and .u64 (IntKind.u64.wrap s / 1099511627776) 255) ≤ 255 := by
 have h0 := high_of s;generalize IntKind.u64.wrap s / 1099511627776 = y at h0 ⊢;have e : Go.bits .and .u64 y 255 = y % 2 ^ 8 := bits_mask .u64 64 (by decide) Go.wraps_u64 8 (by decide) y h0.1 h0.2;rw [e]
 exact byte_w _ (byte_of _)
theorem next_some (c : List Int) (hc : Bytes c) (a s : Int) (h0 : 0 ≤ a) (h1 : a ≤ 4611686018427387904) : ∃ x t, spec_l1Cur_next.f c a s = some (x, a + 1, t) ∧ 0 ≤ x ∧ x ≤ 255 := by
 unfold spec_l1Cur_next.f
 rw [show wrap64 (a + 1) = a + 1 from w64 (by omega) (by omega)]
 by_cases q : a < (c.length : Int)
 ·have e : 0 ≤ rd c a ∧ rd c a ≤ 255 := by
   unfold rd
   rw [getD_of (List.getElem?_eq_getElem (by omega))]
   exact hc _ (List.getElem_mem _)
  rw [if_pos q, if_pos h0, if_pos (by omega), w64 (by omega) (by omega)]
  exact ⟨_, _, rfl, e⟩
 ·rw [if_neg q, if_neg (by omega)]
  exact ⟨_, _, rfl, low_byte _⟩
def Dr (n a : Int) (r : Int × Int × Int) : Prop := 0 ≤ r.1 ∧ (1 < n → r.1 < n) ∧ (n ≤ 1 → r.1 = 0) ∧ a ≤ r.2.1 ∧ r.2.1 ≤ a + 2
theorem pick_some (c : List Int) (hc : Bytes c) (a s n : Int) (h0 : 0 ≤ a) (h1 : a ≤ 2305843009213693952) : ∃ r, spec_l1Cur_pick.f c a s n = some r ∧ Dr n a r := by
 unfold spec_l1Cur_pick.f
 by_cases q : n ≤ 1
 ·rw [if_pos q]
  exact ⟨_, rfl, by simp [Dr]; omega⟩
 ·rw [if_neg q];obtain ⟨x, t, e, x0, x1⟩ := next_some c hc a s h0 (by omega);rw [e];simp only [Option.bind_some]
  by_cases q2 : n > 200
  ·rw [if_pos q2];obtain ⟨y, u, e2, y0, y1⟩ := next_some c hc (a + 1) t (by omega) (by omega);rw [e2];simp only [Option.bind_some];rw [if_neg (by omega), show wrap64 (x * 256) = x * 256 from w64 (by omega) (by omega), show wrap64 (x * 256 + y) = x * 256 + y from w64 (by omega) (by omega), Int.tmod_eq_emod_of_nonneg (by omega)];have m0 := Int.emod_nonneg (x * 256 + y) (show n ≠ 0 by omega);have m1 := Int.emod_lt_of_pos (x * 256 + y) (show 0 < n by omega)
   exact ⟨_, rfl, by simp only [Dr]; omega⟩
  ·rw [if_neg q2, if_neg (by omega), Int.tmod_eq_emod_of_nonneg (by omega)];have m0 := Int.emod_nonneg x (show n ≠ 0 by omega);have m1 := Int.emod_lt_of_pos x (show 0 < n by omega)
   exact ⟨_, rfl, by simp only [Dr]; omega⟩
theorem pick {c : List Int} (hc : Bytes c) {a : Int} (s n : Int) (h0 : 0 ≤ a) (h1 : a ≤ 2305843009213693952) : Has (fun _ => spec_l1Cur_pick.f c a s n) (Dr n a) := by
 obtain ⟨r, e, d⟩ := pick_some c hc a s n h0 h1
 exact ⟨r, Ev.nor e, d⟩
def Far {α : Type} (m a : Int) (r : α × Int × Int) : Prop := a ≤ r.2.1 ∧ r.2.1 ≤ a + m
theorem among {c : List Int} (hc : Bytes c) {a : Int} (s : Int) (l : List Int) (hl : l ≠ []) (h0 : 0 ≤ a) (h1 : a ≤ 2305843009213693952) : Has (fun _ => spec_l1Cur_among.f c a s l) (fun r => r.1 ∈ l ∧ a ≤ r.2.1 ∧ r.2.1 ≤ a + 2) := by
 have hn : 0 < l.length := List.length_pos_iff.2 hl
 unfold spec_l1Cur_among.f
 refine Has.bind (pick hc s _ h0 h1) fun r ⟨r0, r1, r2, r3, r4⟩ => ?_
 have r5 : r.1 < (l.length : Int) := by
  rcases Int.lt_or_le 1 (l.length : Int) with h | h
  ·exact r1 h
  ·have := r2 h
   omega
 refine Has.pos r0 (Has.pos r5 (Has.now ⟨?_, r3, r4⟩))
 unfold rd
 rw [getD_of (List.getElem?_eq_getElem (by omega))]
 exact List.getElem_mem _
theorem amongCut {β : Type} {c : List Int} (hc : Bytes c) {a : Int} (s : Int) (l : List Int) (b : Int) (hb : 1 ≤ b) (hl : b + 2 ≤ (l.length : Int)) (hm : (l.length : Int) ≤ 1000) (h0 : 0 ≤ a) (h1 : a ≤ 1152921504606846976) {K : Nat → Int × Int × Int → Option β} {Q : β → Prop}
  (k : ∀ r : Int × Int × Int, r.1 ∈ l → a ≤ r.2.1 → r.2.1 ≤ a + 4 → Has (fun n => K n r) Q) :
  Has (fun n => (spec_l1Cur_pick.f c a s 24).bind fun bt => (if 0 ≤ (wrap64 (b + (wrap64 (Int.tdiv bt.1 11)))) then (if (wrap64 (b + (wrap64 (Int.tdiv bt.1 11)))) ≤ (l.length : Int) then ((spec_l1Cur_among.f c bt.2.1 bt.2.2 (l.take ((wrap64 (b + (wrap64 (Int.tdiv bt.1 11)))) : Int).toNat)).bind (K n)) else (none)) else (none))) Q := by
 refine Has.bind (pick hc s 24 h0 (by omega)) fun r ⟨r0, r1, _, r3, r4⟩ => ?_
 have r5 := r1 (by omega)
 have e : wrap64 (b + wrap64 (Int.tdiv r.1 11)) = b + r.1 / 11 := by
  rw [Int.tdiv_eq_ediv_of_nonneg r0, w64 (x := r.1 / 11) (by omega) (by omega), w64 (by omega) (by omega)]
 rw [e];refine Has.pos (by omega) (Has.pos (by omega) ?_)
 refine Has.bind (among hc (a := r.2.1) r.2.2 _ ?_ (by omega) (by omega)) fun q ⟨q0, q1, q2⟩ => k q (List.mem_of_mem_take q0) (by omega) (by omega)
 intro h;have h2 := congrArg List.length h;rw [List.length_take, List.length_nil] at h2
 omega
def FarC (m a : Int) (r : Int × List S45 × Int × Int × Int) : Prop := r.2.1.length ≤ 30 ∧ a ≤ r.2.2.2.1 ∧ r.2.2.2.1 ≤ a + m
theorem draw_steps {c : List Int} (hc : Bytes c) (x5 : Int) (h5 : 0 ≤ x5) (f g y z : Int) : ∀ (d : Nat) (xs : List S45) (a s : Int), 8 ≤ xs.length + d → x5 < xs.length → xs.length ≤ 30 → 0 ≤ a → a ≤ 1000000000000000000 - 2 * d →
  Has (fun k => spec_l1Cur_charge.l1 k x5 c a s f xs g y z) (FarC (2 * d + 2) a) := by
 intro d
 induction d with
 | zero =>
  intro xs a s hl hx h30 h0 h1;refine Has.step (fun k => spec_l1Cur_charge.l1.eq_2 ..) (Has.bind (pick hc s 2 h0 (by omega)) fun r ⟨r0, r1, _, r3, r4⟩ => ?_);have r5 := r1 (by omega);rw [w64 (x := 6 + r.1) (by omega) (by omega)]
  exact Has.neg (by omega) (Has.pos h5 (Has.pos hx (Has.now ⟨by simpa using h30, by simp only; omega, by simp only; omega⟩)))
 | succ d ih =>
  intro xs a s hl hx h30 h0 h1;refine Has.step (fun k => spec_l1Cur_charge.l1.eq_2 ..) (Has.bind (pick hc s 2 h0 (by omega)) fun r ⟨r0, r1, _, r3, r4⟩ => ?_);have r5 := r1 (by omega);rw [w64 (x := 6 + r.1) (by omega) (by omega)]
  by_cases q : (xs.length : Int) < 6 + r.1
  ·exact Has.pos q (Has.pos (by omega) (Has.mono (ih _ r.2.1 r.2.2 (by simp; omega) (by simp; omega) (by simp; omega) (by omega) (by omega)) fun b hb => ⟨hb.1, by have := hb.2; omega, by have := hb.2; omega⟩))
  ·exact Has.neg q (Has.pos h5 (Has.pos hx (Has.now ⟨by simpa using h30, by simp only; omega, by simp only; omega⟩)))
theorem draw_charge_at {c : List Int} (hc : Bytes c) (f g : Int) : ∀ (n : Nat) (xs : List S45) (a s : Int), xs.length + n ≤ 8 → 0 < xs.length + n → 0 ≤ a → a ≤ 100000000000000000 - 6 * n →
  Has (fun k => spec_l1Cur_charge.l0 k n c a s f xs g) (FarC (6 * n + 60) a) := by
 intro n
 induction n with
 | zero =>
  intro xs a s hl hp h0 h1;refine Has.step (fun k => spec_l1Cur_charge.l0.eq_2 ..) (Has.neg (by omega) ?_)
  refine Has.bind (pick hc s _ h0 (by omega)) fun i ⟨i0, i1, i2, i3, i4⟩ => ?_
  have i5 : i.1 < (xs.length : Int) := by
   rcases Int.lt_or_le 1 (xs.length : Int) with h | h
   ·exact i1 h
   ·have := i2 h
    omega
  refine Has.pos i0 (Has.pos i5 (Has.bind (pick hc i.2.2 40 (by omega) (by omega)) fun r ⟨r0, r1, _, r3, r4⟩ => ?_))
  have fin : ∀ (l : List Int), l ≠ [] → Has (fun _ => spec_l1Cur_among.f c r.2.1 r.2.2 l) (fun q => r.2.1 ≤ q.2.1 ∧ q.2.1 ≤ r.2.1 + 2) := fun l h => Has.mono (among hc r.2.2 l h (by omega) (by omega)) fun q hq => hq.2
  refine Has.ite (fun _ => ?_) (fun _ => Has.ite (fun _ => ?_) (fun _ => Has.ite (fun _ => ?_) (fun _ => Has.ite (fun _ => ?_) (fun _ => Has.ite (fun _ => ?_) (fun _ => ?_)))))
  ·exact Has.bind (fin _ (by simp)) fun q q1 => Has.now ⟨by simp only [List.length_set]; omega, by simp only; omega, by simp only; omega⟩
  ·exact Has.bind (fin _ (by simp)) fun q q1 => Has.now ⟨by simp only [List.length_set]; omega, by simp only; omega, by simp only; omega⟩
  ·exact Has.bind (fin _ (by simp)) fun q q1 => Has.now ⟨by simp only [List.length_set]; omega, by simp only; omega, by simp only; omega⟩
  ·exact Has.bind (fin _ (by simp)) fun q q1 => Has.now ⟨by simp only [List.length_set]; omega, by simp only; omega, by simp only; omega⟩
  ·exact Has.mono (draw_steps hc i.1 i0 f g _ _ 8 xs r.2.1 r.2.2 (by omega) i5 (by omega) (by omega) (by omega)) fun b hb => ⟨hb.1, by have := hb.2; omega, by have := hb.2; omega⟩
  ·exact Has.now ⟨by simp only [List.length_set]; omega, by simp only; omega, by simp only; omega⟩
 | succ n ih =>
  intro xs a s hl hp h0 h1;refine Has.step (fun k => spec_l1Cur_charge.l0.eq_2 ..) (Has.pos (by omega) ?_);rw [show wrap64 (((n + 1 : Nat) : Int) - 1) = (n : Int) from by rw [w64 (by omega) (by omega)]; omega]
  refine Has.bind (among hc s _ (by simp) h0 (by omega)) fun q ⟨_, q1, q2⟩ => ?_
  refine Has.bind (among hc q.2.2 _ (by simp) (by omega) (by omega)) fun u ⟨_, u1, u2⟩ => ?_
  exact Has.pos (by omega) (Has.mono (ih _ u.2.1 u.2.2 (by simp; omega) (by simp; omega) (by omega) (by omega)) fun b hb => ⟨hb.1, by have := hb.2; omega, by have := hb.2; omega⟩)
theorem draw_charge {c : List Int} (hc : Bytes c) {a : Int} (s : Int) (h0 : 0 ≤ a) (h1 : a ≤ 10000000000000000) : Has (fun k => spec_l1Cur_charge.f k c a s) (FarC 200 a) := by
 unfold spec_l1Cur_charge.f
 refine Has.bind (among hc s _ (by simp) h0 (by omega)) fun q ⟨_, q1, q2⟩ => ?_
 refine Has.bind (among hc q.2.2 _ (by simp) (by omega) (by omega)) fun u ⟨_, u1, u2⟩ => ?_
 refine Has.bind (pick hc u.2.2 4 (by omega) (by omega)) fun r ⟨r0, r1, _, r3, r4⟩ => ?_
 have r5 := r1 (by omega);rw [show wrap64 (1 + r.1) = (((1 + r.1).toNat : Nat) : Int) from by rw [w64 (by omega) (by omega)]; omega]
 exact Has.mono (draw_charge_at hc q.1 u.1 (1 + r.1).toNat [] r.2.1 r.2.2 (by simp; omega) (by simp; omega) (by omega) (by omega)) fun b hb => ⟨hb.1, by have := hb.2; omega, by have := hb.2; omega⟩
theorem draw_stay {c : List Int} (hc : Bytes c) {a : Int} (s : Int) (h0 : 0 ≤ a) (h1 : a ≤ 10000000000000000) : Has (fun _ => spec_l1Cur_stay.f c a s) (fun r => r.1 ≤ 401 ∧ -1 ≤ r.1 ∧ a ≤ r.2.1 ∧ r.2.1 ≤ a + 4) := by
 unfold spec_l1Cur_stay.f
 exact Has.val (amongCut hc s _ 8 (by omega) (by simp) (by simp) h0 (by omega) fun r hr r1 r2 => Has.now ⟨by simp at hr; simp only; omega, by simp at hr; simp only; omega, r1, r2⟩)
theorem draw_size22 {c : List Int} (hc : Bytes c) {a : Int} (s : Int) (h0 : 0 ≤ a) (h1 : a ≤ 10000000000000000) : Has (fun _ => spec_l1Cur_size22.f c a s) (fun r => a ≤ r.2.1 ∧ r.2.1 ≤ a + 4) := by
 unfold spec_l1Cur_size22.f
 exact Has.val (amongCut hc s _ 4 (by omega) (by simp) (by simp) h0 (by omega) fun r hr r1 r2 => Has.now ⟨r1, r2⟩)
theorem one {c : List Int} (hc : Bytes c) {a : Int} (s n : Int) (h0 : 0 ≤ a) (h1 : a ≤ 2305843009213693952) : Has (fun _ => spec_l1Cur_one.f c a s n) (fun r => a ≤ r.2.1 ∧ r.2.1 ≤ a + 2) := by
 unfold spec_l1Cur_one.f
 exact Has.bind (pick hc s n h0 h1) fun r ⟨_, _, _, r3, r4⟩ => Has.now ⟨r3, r4⟩
def stepOk (x : S45) : Prop := (1 ≤ x.f0 ∧ x.f0 ≤ 100) ∧ (0 ≤ x.f1 ∧ x.f1 ≤ 10000)
instance (x : S45) : Decidable (stepOk x) := by unfold stepOk; infer_instance
def Good (f : Int) (st : List S45) (g : Int) : Prop := (0 ≤ f ∧ f ≤ 30) ∧ (1 ≤ (st.length : Int) ∧ (st.length : Int) ≤ 6) ∧ (100 ≤ g ∧ g ≤ 300) ∧ ∀ j : Nat, j < st.length → stepOk (rd_T45 st j)
theorem notOk (x : S45) : impl_IsValidCharge_1.f x.f0 x.f1 = some (!decide (stepOk x)) := by
 unfold impl_IsValidCharge_1.f stepOk
 rw [within_eq, within_eq]
 by_cases h : 1 ≤ x.f0 ∧ x.f0 ≤ 100
 ·simp only [h, Option.bind_some, true_and, and_self, decide_true, if_true]
 ·simp only [h, Option.bind_some, false_and, decide_false]
  rfl
theorem goodLoop (st : List S45) (hl : st.length ≤ 1048577) (f g : Int) : ∀ d i : Nat, i + d = st.length → ∃ (b : Bool) (q : Int), Ev (fun k => spec_l22Good.l0 k i f st g) b ∧
  Ev (fun k => slices_IndexFunc_impl_RateStep.l0 k st st.length i) q ∧ (!decide (q ≥ 0)) = b ∧ (b = true ↔ ∀ j : Nat, i ≤ j → j < st.length → stepOk (rd_T45 st j)) := by
 intro d
 induction d with
 | zero =>
  intro i hi
  exact ⟨true, -1, Ev.step (fun k => spec_l22Good.l0.eq_2 ..) (Ev.neg (by omega) (Ev.now _)), Ev.step (fun k => slices_IndexFunc_impl_RateStep.l0.eq_2 ..) (Ev.neg (by omega) (Ev.now _)), rfl, ⟨fun _ j h1 h2 => absurd h2 (by omega), fun _ => rfl⟩⟩
 | succ d ih =>
  intro i hi
  have li : (i : Int) < st.length := by omega
  have l0 : (0 : Int) ≤ i := by omega
  have w1 : wrap64 ((i : Int) + 1) = ((i + 1 : Nat) : Int) := by rw [w64 (by omega) (by omega)]; rfl
  have no := notOk (rd_T45 st i)
  by_cases c : stepOk (rd_T45 st i)
  ·obtain ⟨b, q, h1, h2, h3, h4⟩ := ih (i + 1) (by omega);rw [← w1] at h1 h2;refine ⟨b, q, ?_, ?_, h3, h4.trans ⟨fun h j j1 j2 => ?_, fun h j j1 j2 => h j (by omega) j2⟩⟩
   ·exact Ev.step (fun k => spec_l22Good.l0.eq_2 ..) (Ev.pos li (Ev.pos l0 (Ev.const (l1In_eq _ _ _) (Ev.pos (decide_eq_true c.1) (Ev.const (l1In_eq _ _ _) (Ev.pos (decide_eq_true c.2) h1))))))
   ·refine Ev.step (fun k => slices_IndexFunc_impl_RateStep.l0.eq_2 ..) (Ev.pos li (Ev.pos l0 (Ev.pos li (Ev.const no (Ev.neg ?_ h2)))));rw [decide_eq_true c]
    exact fun h => by cases h
   ·rcases Nat.lt_or_ge i j with q | q
    ·exact h j q j2
    ·obtain rfl : j = i := by omega
     exact c
  ·refine ⟨false, i, ?_, ?_, by simp, ⟨fun h => (by cases h), fun h => absurd (h i (Nat.le_refl _) (by omega)) c⟩⟩
   ·refine Ev.step (fun k => spec_l22Good.l0.eq_2 ..) (Ev.pos li (Ev.pos l0 (Ev.const (l1In_eq _ _ _) (Ev.ite (fun h1 => Ev.const (l1In_eq _ _ _) (Ev.neg (fun h2 => c ⟨of_decide_eq_true h1, of_decide_eq_true h2⟩) (Ev.now _))) (fun _ => Ev.now _)))))
   ·refine Ev.step (fun k => slices_IndexFunc_impl_RateStep.l0.eq_2 ..) (Ev.pos li (Ev.pos l0 (Ev.pos li (Ev.const no (Ev.pos ?_ (Ev.now _))))));rw [decide_eq_false c]
    rfl
theorem good (f : Int) (st : List S45) (hl : st.length ≤ 1048577) (g : Int) : ∃ b : Bool, Ev (fun k => spec_l22Good.f k f st g) b ∧ Ev (fun k => impl_IsValidCharge.f k f st g) b ∧ (b = true ↔ Good f st g) := by
 unfold spec_l22Good.f impl_IsValidCharge.f slices_ContainsFunc_impl_RateStep.f slices_IndexFunc_impl_RateStep.f
 have jt : Ev (fun k => spec_l22Good.j0 k true f st g) false := Ev.step (fun k => spec_l22Good.j0.eq_2 ..) (Ev.pos rfl (Ev.now _))
 by_cases c0 : 0 ≤ f ∧ f ≤ 30
 ·by_cases c1 : 1 ≤ (st.length : Int) ∧ (st.length : Int) ≤ 6
  ·by_cases c2 : 100 ≤ g ∧ g ≤ 300
   ·obtain ⟨b, q, h1, h2, h3, h4⟩ := goodLoop st hl f g st.length 0 (by omega)
    refine ⟨b, Ev.const (l1In_eq _ _ _) (Ev.pos (decide_eq_true c0) (Ev.const (l1In_eq _ _ _) (Ev.pos (decide_eq_true c1) (Ev.const (l1In_eq _ _ _) (Ev.step (fun k => spec_l22Good.j0.eq_2 ..) (Ev.neg ?_ h1)))))),
     Ev.const (within_eq _ _ _) (Ev.pos (decide_eq_true c0) (Ev.const (within_eq _ _ _) (Ev.pos (decide_eq_true c1) (Ev.const (within_eq _ _ _) (Ev.pos (decide_eq_true c2) (Ev.bind (Ev.bind h2 (Ev.now _)) (Ev.eq (Ev.now _) h3))))))), h4.trans ⟨fun h => ⟨c0, c1, c2, fun j hj => h j (by omega) hj⟩, fun h j _ hj => h.2.2.2 j hj⟩⟩
    rw [decide_eq_true c2]
    exact fun h => by cases h
   ·refine ⟨false, Ev.const (l1In_eq _ _ _) (Ev.pos (decide_eq_true c0) (Ev.const (l1In_eq _ _ _) (Ev.pos (decide_eq_true c1) (Ev.const (l1In_eq _ _ _) ?_)))),
     Ev.const (within_eq _ _ _) (Ev.pos (decide_eq_true c0) (Ev.const (within_eq _ _ _) (Ev.pos (decide_eq_true c1) (Ev.const (within_eq _ _ _) (Ev.neg (fun h => c2 (of_decide_eq_true h)) (Ev.now _)))))), ⟨fun h => (by cases h), fun h => absurd h.2.2.1 c2⟩⟩
    rw [decide_eq_false c2]
    exact jt
  ·exact ⟨false, Ev.const (l1In_eq _ _ _) (Ev.pos (decide_eq_true c0) (Ev.const (l1In_eq _ _ _) (Ev.neg (fun h => c1 (of_decide_eq_true h)) jt))),
     Ev.const (within_eq _ _ _) (Ev.pos (decide_eq_true c0) (Ev.const (within_eq _ _ _) (Ev.neg (fun h => c1 (of_decide_eq_true h)) (Ev.now _)))), ⟨fun h => (by cases h), fun h => absurd h.2.1 c1⟩⟩
 ·exact ⟨false, Ev.const (l1In_eq _ _ _) (Ev.neg (fun h => c0 (of_decide_eq_true h)) jt), Ev.const (within_eq _ _ _) (Ev.neg (fun h => c0 (of_decide_eq_true h)) (Ev.now _)), ⟨fun h => (by cases h), fun h => absurd h.1 c0⟩⟩
def T (l : List UInt8) : ByteArray := ⟨l.toArray⟩
theorem T_cat (a b : List UInt8) : T a ++ T b = T (a ++ b) := by
 apply ByteArray.ext
 simp [T]
theorem T_of (x : ByteArray) : T x.data.toList = x := by
 apply ByteArray.ext
 simp [T]
theorem T_data (l : List UInt8) : (T l).data.toList = l := by simp [T]
theorem T_size (l : List UInt8) : (T l).size = l.length := by simp [T, ByteArray.size]
theorem digit_all : ∀ i : Fin 10, (⟨#[48, 49, 50, 51, 52, 53, 54, 55, 56, 57]⟩ : ByteArray).extract i.val (i.val + 1) = (⟨#[UInt8.ofNat (48 + i.val)]⟩ : ByteArray) := by decide +kernel
theorem digit (i : Nat) (h : i < 10) : (⟨#[48, 49, 50, 51, 52, 53, 54, 55, 56, 57]⟩ : ByteArray).extract i (i + 1) = T [UInt8.ofNat (48 + i)] := digit_all ⟨i, h⟩
theorem l1num : ∀ m : Nat, m ≤ 1000000 → Ev (fun k => spec_l1Num.f k (m : Int)) (T (Lib.decDigits m)) ∧ (Lib.decDigits m).length ≤ m + 1 := by
 intro m
 induction m using Nat.strongRecOn with
 | _ m ih =>
  intro hm
  by_cases h : m < 10
  ·have w : wrap64 ((m : Int) + 1) = ((m + 1 : Nat) : Int) := by rw [w64 (by omega) (by omega)]; rfl
   rw [Lib.decDigits_one h];refine ⟨Ev.step (fun k => spec_l1Num.f.eq_2 ..) (Ev.neg (by omega) (Ev.pos (by omega) (Ev.pos (by omega) ?_))), by simp⟩;rw [w];refine Ev.pos (by omega) (Ev.pos (by omega) (Ev.eq (Ev.now _) ?_));rw [Int.toNat_natCast, Int.toNat_natCast]
   exact digit m h
  ·obtain ⟨h1, h2⟩ := ih (m / 10) (by omega) (by omega)
   have e1 : wrap64 (Int.tdiv (m : Int) 10) = ((m / 10 : Nat) : Int) := by
    rw [Int.tdiv_eq_ediv_of_nonneg (by omega), w64 (by omega) (by omega)]
    omega
   have e2 : Int.tmod (m : Int) 10 = ((m % 10 : Nat) : Int) := by
    rw [Int.tmod_eq_emod_of_nonneg (by omega)]
    omega
   have w : wrap64 (((m % 10 : Nat) : Int) + 1) = ((m % 10 + 1 : Nat) : Int) := by rw [w64 (by omega) (by omega)]; rfl
   have ed : Lib.decDigits m = Lib.decDigits (m / 10) ++ [UInt8.ofNat (48 + m % 10)] := by rw [Lib.decDigits, dif_neg h]
   have dg := digit (m % 10) (by omega);rw [ed];refine ⟨Ev.step (fun k => spec_l1Num.f.eq_2 ..) (Ev.neg (by omega) (Ev.neg (by omega) ?_)), by rw [List.length_append]; simp; omega⟩;rw [e1, e2];refine Ev.bind h1 (Ev.pos (by omega) ?_);rw [w];refine Ev.pos (by omega) (Ev.pos (by omega) ?_);rw [Int.toNat_natCast, Int.toNat_natCast, dg];refine Ev.pos (by rw [T_size, T_size]; simp; omega) (Ev.eq (Ev.now _) (T_cat _ _))
def NI (x : Int) : ByteArray := T (Lib.decDigits x.toNat)
theorem NI_size (x : Int) (h0 : 0 ≤ x) (h1 : x ≤ 1000000) : (NI x).size ≤ 1000001 := by
 have := (l1num x.toNat (by omega)).2
 unfold NI
 rw [T_size]
 omega
theorem num_spec (x : Int) (h0 : 0 ≤ x) (h1 : x ≤ 1000000) : Ev (fun k => spec_l1Num.f k x) (NI x) := by
 have := (l1num x.toNat (by omega)).1;rw [Int.toNat_of_nonneg h0] at this
 exact this
theorem num_impl (x : Int) (h0 : 0 ≤ x) (h1 : x ≤ 1000000) : impl_decimal.f x = some (NI x) := by
 unfold impl_decimal.f strconv_Itoa_59.f
 rw [if_pos ⟨by omega, by omega⟩]
 unfold Lib.itoa
 rw [if_neg (by omega)]
 rfl
def J (ps : List ByteArray) : ByteArray := T (Lib.join (ps.map (·.data.toList)) [44, 32])
theorem J_one (x : ByteArray) : J [x] = x := by
 unfold J
 rw [List.map_cons, List.map_nil, Lib.join_one]
 exact T_of x
theorem J_snoc (p : ByteArray) (ps : List ByteArray) (x : ByteArray) : J ((p :: ps) ++ [x]) = (J (p :: ps) ++ (⟨#[44, 32]⟩ : ByteArray)) ++ x := by
 unfold J
 rw [List.cons_append, List.map_cons, List.map_cons, List.map_append, Lib.join_cons, Lib.join_cons]
 have e : Lib.joinTail [44, 32] (ps.map (·.data.toList) ++ [x].map (·.data.toList)) = Lib.joinTail [44, 32] (ps.map (·.data.toList)) ++ ([44, 32] ++ x.data.toList) := by
  unfold Lib.joinTail
  rw [List.map_append, List.flatten_append]
  simp
 rw [e]
 show _ = (T _ ++ T [44, 32]) ++ x
 rw [T_cat, ← T_of x, T_cat, T_data];simp only [List.append_assoc]
theorem join_J (ps : List ByteArray) (h : ps.length ≤ 100) (hs : (J ps).size ≤ 1000000000) : strings_Join.f ps (⟨#[44, 32]⟩ : ByteArray) = some (J ps) := by
 have e : (J ps).size = (Lib.join (ps.map (·.data.toList)) [44, 32]).length := T_size _
 unfold strings_Join.f
 show (if ps.length ≤ 140737488355328 ∧ (Lib.join (ps.map (·.data.toList)) [44, 32]).length ≤ 140737488355328 then some (J ps) else none) = _
 rw [if_pos ⟨by omega, by omega⟩]
def stepText (st : List S45) (j : Nat) : ByteArray := (NI (rd_T45 st j).f0 ++ (⟨#[32, 120, 32]⟩ : ByteArray)) ++ NI (rd_T45 st j).f1
def P (f : Int) (st : List S45) (n : Nat) : List ByteArray := (NI f ++ (⟨#[32, 102, 114, 101, 101]⟩ : ByteArray)) :: (List.range n).map (stepText st)
theorem P_succ (f : Int) (st : List S45) (n : Nat) : P f st (n + 1) = P f st n ++ [stepText st n] := by
 unfold P
 rw [List.range_succ, List.map_append]
 rfl
theorem sizes (A d e : ByteArray) (hA : A.size ≤ 100000000) (hd : d.size ≤ 1000001) (he : e.size ≤ 1000001) : A.size + 2 ≤ 9223372036854775807 ∧ (A ++ (⟨#[44, 32]⟩ : ByteArray)).size + d.size ≤ 9223372036854775807 ∧
  ((A ++ (⟨#[44, 32]⟩ : ByteArray)) ++ d).size + 3 ≤ 9223372036854775807 ∧ (((A ++ (⟨#[44, 32]⟩ : ByteArray)) ++ d) ++ (⟨#[32, 120, 32]⟩ : ByteArray)).size + e.size ≤ 9223372036854775807 ∧ d.size + 3 ≤ 9223372036854775807 ∧ (d ++ (⟨#[32, 120, 32]⟩ : ByteArray)).size + e.size ≤ 9223372036854775807 := by
 have z3 : (⟨#[32, 120, 32]⟩ : ByteArray).size = 3 := rfl;have z2 : (⟨#[44, 32]⟩ : ByteArray).size = 2 := rfl;simp only [ByteArray.size_append, z2, z3];generalize A.size = a at *;generalize d.size = b at *;generalize e.size = c at *
 omega
def TX (f : Int) (st : List S45) (g : Int) : ByteArray := J (P f st st.length ++ [(⟨#[108, 97, 114, 103, 101, 32]⟩ : ByteArray) ++ NI g])
theorem chargeTextsAt (f : Int) (st : List S45) (g : Int) (hg : Good f st g) : Ev (fun k => spec_ChargeText.l0 k (NI f ++ (⟨#[32, 102, 114, 101, 101]⟩ : ByteArray)) 0 f st g) (TX f st g, true) ∧ Ev (fun k => impl_chargeText.f k f st g) (TX f st g) := by
 obtain ⟨hf, hn, hgg, hst⟩ := hg
 have hle : st.length ≤ 6 := by have := hn.2; omega
 have hb : ∀ A i : Nat, i < 6 → A ≤ 3000000 * (i + 1) → A ≤ 100000000 := fun A i hi h => by omega
 have hpl : ∀ A i : Nat, i < 6 → A = i + 1 → A < 8796093022208 := fun A i hi h => by omega
 have s0 := NI_size f hf.1 (by omega);have z5 : (⟨#[32, 102, 114, 101, 101]⟩ : ByteArray).size = 5 := rfl;have z3 : (⟨#[32, 120, 32]⟩ : ByteArray).size = 3 := rfl;have z2 : (⟨#[44, 32]⟩ : ByteArray).size = 2 := rfl;have z6 : (⟨#[108, 97, 114, 103, 101, 32]⟩ : ByteArray).size = 6 := rfl;have z8 : (⟨#[44, 32, 108, 97, 114, 103, 101, 32]⟩ : ByteArray).size = 8 := rfl;have sg := NI_size g (by omega) (by omega);have e8 : (⟨#[44, 32, 108, 97, 114, 103, 101, 32]⟩ : ByteArray) = (⟨#[44, 32]⟩ : ByteArray) ++ (⟨#[108, 97, 114, 103, 101, 32]⟩ : ByteArray) := (T_cat [44, 32] [108, 97, 114, 103, 101, 32]).symm
 let last : ByteArray := (⟨#[108, 97, 114, 103, 101, 32]⟩ : ByteArray) ++ NI g
 have sz : ∀ n : Nat, n ≤ st.length → (J (P f st n)).size ≤ 3000000 * (n + 1) := by
  intro n
  induction n with
  | zero =>
   intro _
   show (J [_]).size ≤ _
   rw [J_one, ByteArray.size_append, z5]
   omega
  | succ n ih =>
   intro h;have h1 := ih (by omega);have h2 := hst n (by omega);have q0 := NI_size (rd_T45 st n).f0 (by have := h2.1.1; omega) (by have := h2.1.2; omega);have q1 := NI_size (rd_T45 st n).f1 h2.2.1 (by have := h2.2.2; omega);rw [P_succ, show P f st n = (NI f ++ (⟨#[32, 102, 114, 101, 101]⟩ : ByteArray)) :: (List.range n).map (stepText st) from rfl, J_snoc, ← show P f st n = (NI f ++ (⟨#[32, 102, 114, 101, 101]⟩ : ByteArray)) :: (List.range n).map (stepText st) from rfl];simp only [stepText, ByteArray.size_append, z2, z3]
   omega
 have fin : ∀ n : Nat, J (P f st n ++ [last]) = (J (P f st n) ++ (⟨#[44, 32, 108, 97, 114, 103, 101, 32]⟩ : ByteArray)) ++ NI g := by
  intro n;rw [show P f st n = (NI f ++ (⟨#[32, 102, 114, 101, 101]⟩ : ByteArray)) :: (List.range n).map (stepText st) from rfl, J_snoc, e8]
  show _ ++ ((⟨#[108, 97, 114, 103, 101, 32]⟩ : ByteArray) ++ NI g) = _
  simp only [ByteArray.append_assoc]
 have nx : ∀ n : Nat, J (P f st (n + 1)) = (((J (P f st n) ++ (⟨#[44, 32]⟩ : ByteArray)) ++ NI (rd_T45 st n).f0) ++ (⟨#[32, 120, 32]⟩ : ByteArray)) ++ NI (rd_T45 st n).f1 := by
  intro n;rw [P_succ, show P f st n = (NI f ++ (⟨#[32, 102, 114, 101, 101]⟩ : ByteArray)) :: (List.range n).map (stepText st) from rfl, J_snoc]
  show _ ++ ((NI (rd_T45 st n).f0 ++ (⟨#[32, 120, 32]⟩ : ByteArray)) ++ NI (rd_T45 st n).f1) = _
  simp only [ByteArray.append_assoc]
 have S : ∀ d i : Nat, i + d = st.length → Ev (fun k => spec_ChargeText.l0 k (J (P f st i)) i f st g) (J (P f st st.length ++ [last]), true) := by
  intro d
  induction d with
  | zero =>
   intro i hi
   obtain rfl : i = st.length := by omega
   have h1 := sz st.length (Nat.le_refl _);refine Ev.step (fun k => spec_ChargeText.l0.eq_2 ..) (Ev.neg (by omega) (Ev.pos (by omega) (Ev.bind (num_spec g (by omega) (by omega)) (Ev.pos (by rw [ByteArray.size_append, z8]; omega) (Ev.eq (Ev.now _) ?_)))));rw [fin]
  | succ d ih =>
   intro i hi
   have i6 : i < 6 := by omega
   have i7 : i ≤ st.length := by omega
   have li : (i : Int) < st.length := by omega
   have i0 : (0 : Int) ≤ i := by omega
   have w1 : wrap64 ((i : Int) + 1) = ((i + 1 : Nat) : Int) := by rw [w64 (by omega) (by omega)]; rfl
   have h2 := hst i (by omega);have hd0 : 0 ≤ (rd_T45 st i).f0 := Int.le_trans (by decide) h2.1.1;have hd1 : (rd_T45 st i).f0 ≤ 1000000 := Int.le_trans h2.1.2 (by decide);have hr1 : (rd_T45 st i).f1 ≤ 1000000 := Int.le_trans h2.2.2 (by decide);have hz := sizes (J (P f st i)) (NI (rd_T45 st i).f0) (NI (rd_T45 st i).f1) (hb _ i i6 (sz i i7)) (NI_size _ hd0 hd1) (NI_size _ h2.2.1 hr1);have := ih (i + 1) (by omega);rw [nx, ← w1] at this
   exact Ev.step (fun k => spec_ChargeText.l0.eq_2 ..) (Ev.pos li (Ev.pos hz.1 (Ev.pos i0 (Ev.bind (num_spec _ hd0 hd1) (Ev.pos hz.2.1 (Ev.pos hz.2.2.1 (Ev.bind (num_spec _ h2.2.1 hr1) (Ev.pos hz.2.2.2.1 this))))))))
 have pl : ∀ n : Nat, (P f st n).length = n + 1 := fun n => by unfold P; simp
 have I : ∀ d i : Nat, i + d = st.length → Ev (fun k => impl_chargeText.l0 k (P f st i) st st.length i f st g) (J (P f st st.length ++ [last])) := by
  intro d
  induction d with
  | zero =>
   intro i hi
   obtain rfl : i = st.length := by omega
   have h1 := sz st.length (Nat.le_refl _);have p1 := pl st.length;have jj := join_J (P f st st.length ++ [last]) (by rw [List.length_append, p1]; simp; omega) (by rw [fin, ByteArray.size_append, ByteArray.size_append, z8]; omega)
   exact Ev.step (fun k => impl_chargeText.l0.eq_2 ..) (Ev.neg (by omega) (Ev.const (num_impl g (by omega) (by omega)) (Ev.pos (by omega) (Ev.pos (by omega) (Ev.const jj (Ev.now _))))))
  | succ d ih =>
   intro i hi
   have i6 : i < 6 := by omega
   have i7 : i ≤ st.length := by omega
   have li : (i : Int) < st.length := by omega
   have i0 : (0 : Int) ≤ i := by omega
   have w1 : wrap64 ((i : Int) + 1) = ((i + 1 : Nat) : Int) := by rw [w64 (by omega) (by omega)]; rfl
   have hp : (P f st i).length < 8796093022208 := hpl _ i i6 (pl i);have h2 := hst i (by omega);have hd0 : 0 ≤ (rd_T45 st i).f0 := Int.le_trans (by decide) h2.1.1;have hd1 : (rd_T45 st i).f0 ≤ 1000000 := Int.le_trans h2.1.2 (by decide);have hr1 : (rd_T45 st i).f1 ≤ 1000000 := Int.le_trans h2.2.2 (by decide);have hz := sizes (J (P f st i)) (NI (rd_T45 st i).f0) (NI (rd_T45 st i).f1) (hb _ i i6 (sz i i7)) (NI_size _ hd0 hd1) (NI_size _ h2.2.1 hr1);have := ih (i + 1) (by omega);rw [P_succ, ← w1] at this
   exact Ev.step (fun k => impl_chargeText.l0.eq_2 ..) (Ev.pos li (Ev.pos i0 (Ev.pos li (Ev.const (num_impl _ hd0 hd1) (Ev.pos hz.2.2.2.2.1 (Ev.const (num_impl _ h2.2.1 hr1) (Ev.pos hz.2.2.2.2.2 (Ev.pos hp this))))))))
 have S0 := S st.length 0 (by omega);rw [show J (P f st 0) = NI f ++ (⟨#[32, 102, 114, 101, 101]⟩ : ByteArray) from J_one _] at S0;refine ⟨S0, ?_⟩
 unfold impl_chargeText.f
 exact Ev.const (num_impl f hf.1 (by omega)) (Ev.pos (by omega) (I st.length 0 (by omega)))
theorem chargeTexts (f : Int) (st : List S45) (g : Int) (hg : Good f st g) : ∃ s : ByteArray, Ev (fun k => spec_ChargeText.l0 k (NI f ++ (⟨#[32, 102, 114, 101, 101]⟩ : ByteArray)) 0 f st g) (s, true) ∧ Ev (fun k => impl_chargeText.f k f st g) s := ⟨_, (chargeTextsAt f st g hg).1, (chargeTextsAt f st g hg).2⟩
theorem chargeTextBoth (f : Int) (st : List S45) (hl : st.length ≤ 1048577) (g : Int) : ∃ r : ByteArray × Bool, Ev (fun k => spec_ChargeText.f k f st g) r ∧ Ev (fun k => impl_ChargeText.f k f st g) r := by
 obtain ⟨b, b1, b2, b3⟩ := good f st hl g
 unfold spec_ChargeText.f impl_ChargeText.f
 by_cases cb : b = true
 ·have hg := b3.1 cb;obtain ⟨s, s1, s2⟩ := chargeTexts f st g hg;have s0 := NI_size f hg.1.1 (by have := hg.1.2; omega)
  exact ⟨(s, true), Ev.bind b1 (Ev.pos cb (Ev.bind (num_spec f hg.1.1 (by have := hg.1.2; omega)) (Ev.pos (by omega) s1))), Ev.bind b2 (Ev.pos cb (Ev.bind s2 (Ev.now _)))⟩
 ·exact ⟨((⟨#[]⟩ : ByteArray), false), Ev.bind b1 (Ev.neg cb (Ev.now _)), Ev.bind b2 (Ev.neg cb (Ev.now _))⟩
theorem dd_small {n : Nat} (h : n < 10) : Lib.decDigits n = [UInt8.ofNat (48 + n)] := Lib.decDigits_one h
theorem dd_big {n : Nat} (h : ¬ n < 10) : Lib.decDigits n = Lib.decDigits (n / 10) ++ [UInt8.ofNat (48 + n % 10)] := by rw [Lib.decDigits, dif_neg h]
theorem u8n {n : Nat} (h : n < 256) : (UInt8.ofNat n).toNat = n := by
 rw [UInt8.toNat_ofNat']
 exact Nat.mod_eq_of_lt h
theorem dd_digit : ∀ n : Nat, ∀ c ∈ Lib.decDigits n, 48 ≤ c.toNat ∧ c.toNat ≤ 57 := by
 intro n
 induction n using Nat.strongRecOn with
 | _ n ih =>
  intro c hc
  by_cases h : n < 10
  ·rw [dd_small h, List.mem_singleton] at hc;subst hc;rw [u8n (by omega)]
   omega
  ·rw [dd_big h, List.mem_append, List.mem_singleton] at hc
   rcases hc with hc | rfl
   ·exact ih (n / 10) (by omega) c hc
   ·rw [u8n (by omega)]
    omega
theorem dd_pos (n : Nat) : 0 < (Lib.decDigits n).length := by
 by_cases h : n < 10
 ·rw [dd_small h]; simp
 ·rw [dd_big h]; simp
theorem dd_len : ∀ k n : Nat, n < 10 ^ (k + 1) → (Lib.decDigits n).length ≤ k + 1 := by
 intro k
 induction k with
 | zero =>
  intro n h;rw [dd_small (by simpa using h)]
  simp
 | succ k ih =>
  intro n h
  by_cases c : n < 10
  ·rw [dd_small c]; simp
  ·rw [dd_big c, List.length_append, List.length_singleton];have h' : n < 10 ^ (k + 1) * 10 := h;have := ih (n / 10) (by omega)
   omega
def pv (l : List UInt8) : Nat → Nat
 | 0 => 0
 | i + 1 => 10 * pv l i + ((l.getD i 0).toNat - 48)
theorem pv_app (l r : List UInt8) : ∀ i, i ≤ l.length → pv (l ++ r) i = pv l i := by
 intro i
 induction i with
 | zero => intro _; rfl
 | succ i ih =>
  intro h
  unfold pv
  rw [ih (by omega), List.getD_eq_getElem?_getD, List.getElem?_append_left (by omega), ← List.getD_eq_getElem?_getD]
theorem pv_dd : ∀ n : Nat, pv (Lib.decDigits n) (Lib.decDigits n).length = n := by
 intro n
 induction n using Nat.strongRecOn with
 | _ n ih =>
  by_cases h : n < 10
  ·rw [dd_small h]
   show 10 * 0 + ((UInt8.ofNat (48 + n)).toNat - 48) = n
   rw [u8n (by omega)]
   omega
  ·rw [dd_big h, List.length_append, List.length_singleton]
   unfold pv
   rw [pv_app _ _ _ (Nat.le_refl _), ih (n / 10) (by omega), List.getD_eq_getElem?_getD, List.getElem?_append_right (Nat.le_refl _), Nat.sub_self]
   show 10 * (n / 10) + ((UInt8.ofNat (48 + n % 10)).toNat - 48) = n
   rw [u8n (by omega)]
   omega
theorem pv_lt (l : List UInt8) : ∀ i, (∀ j, j < i → (l.getD j 0).toNat ≤ 57) → pv l i < 10 ^ i := by
 intro i
 induction i with
 | zero => intro _; exact Nat.one_pos
 | succ i ih =>
  intro h;have h1 := ih (fun j hj => h j (by omega));have h2 := h i (by omega);have h3 : 10 ^ (i + 1) = 10 ^ i * 10 := Nat.pow_succ ..
  unfold pv
  rw [h3]
  omega
theorem pu : ∀ n : Nat, n ≤ 1000000 → ∀ r, Lib.parseUint10 0 (Lib.decDigits n ++ r) = Lib.parseUint10 n r := by
 intro n
 induction n using Nat.strongRecOn with
 | _ n ih =>
  intro hn r
  by_cases h : n < 10
  ·rw [dd_small h, List.singleton_append, Lib.parseUint10, u8n (by omega), if_pos (by omega), if_neg (by omega), if_neg (by omega)];rw [show 0 * 10 + (48 + n - 48) = n from by omega]
  ·rw [dd_big h, List.append_assoc, ih (n / 10) (by omega) (by omega), List.singleton_append, Lib.parseUint10, u8n (by omega), if_pos (by omega), if_neg (by omega), if_neg (by omega)];rw [show n / 10 * 10 + (48 + n % 10 - 48) = n from by omega]
theorem atoi_dd (n : Nat) (hn : n ≤ 1000000) : Lib.atoiAll (Lib.decDigits n) = .ok (n : Int) := by
 have h := pu n hn [];rw [List.append_nil] at h
 cases hd : Lib.decDigits n with
 | nil => have := dd_pos n; rw [hd] at this; exact absurd this (by decide)
 | cons c r =>
  have hc := dd_digit n c (by rw [hd]; exact List.mem_cons_self);rw [hd] at h
  unfold Lib.atoiAll
  simp only [];have e : (if c.toNat = 43 ∨ c.toNat = 45 then r else c :: r) = c :: r := if_neg (by omega);rw [e]
  unfold Lib.parseMag
  rw [if_neg (by simp), h]
  unfold Lib.parseUint10
  simp only [];rw [if_neg (by omega), if_neg (by omega), if_neg (by omega)]
theorem bt_list (s : ByteArray) (i : Nat) (h : i < s.size) : bt s (i : Int) = ((s.data.toList.getD i 0).toNat : Int) := by
 unfold bt
 have h' : ((i : Int)).toNat < s.size := by rw [Int.toNat_natCast]; exact h
 rw [dif_pos h'];have hl : i < s.data.toList.length := h;rw [List.getD_eq_getElem?_getD, List.getElem?_eq_getElem hl]
 rfl
theorem num_neg (v : Int) (h0 : 0 ≤ v) (h1 : v ≤ 1000000) : ∃ s, Ev (fun k => spec_l1Num.f k (-v)) s := by
 by_cases c : v = 0
 ·subst c
  exact ⟨_, num_spec 0 (by omega) (by omega)⟩
 ·have hs := NI_size v h0 h1;refine ⟨_, Ev.step (fun k => spec_l1Num.f.eq_2 ..) (Ev.pos (by omega) (?_ : Ev _ ((⟨#[45]⟩ : ByteArray) ++ NI v)))⟩;rw [show wrap64 (-(-v)) = v from by rw [Int.neg_neg]; exact w64 (by omega) (by omega)]
  exact Ev.bind (num_spec v h0 h1) (Ev.pos (by omega) (Ev.now _))
theorem readLoop (x0 x4 : ByteArray) (h6 : x4.size ≤ 6) : ∀ d i : Nat, i + d = x4.size → (∀ j, j < i → 48 ≤ (x4.data.toList.getD j 0).toNat ∧ (x4.data.toList.getD j 0).toNat ≤ 57) →
  ∃ r : Int × Bool, Ev (fun k => spec_l1Read.l0 k x0 x4 (pv x4.data.toList i : Nat) i) r ∧ ∀ n : Nat, n ≤ 1000000 → x4 = T (Lib.decDigits n) → x0 = x4 → r = ((n : Int), true) := by
 intro d
 induction d with
 | zero =>
  intro i hi hd
  obtain rfl : i = x4.size := by omega
  have hb := pv_lt x4.data.toList x4.size (fun j hj => (hd j hj).2);have hp : 10 ^ x4.size ≤ 10 ^ 6 := Nat.pow_le_pow_right (by decide) h6;have hb' : pv x4.data.toList x4.size < 1000000 := Nat.lt_of_lt_of_le hb hp
  by_cases c : (x4.size : Int) < (x0.size : Int)
  ·obtain ⟨s, s1⟩ := num_neg (pv x4.data.toList x4.size : Nat) (by omega) (by omega);rw [← show wrap64 (-((pv x4.data.toList x4.size : Nat) : Int)) = -((pv x4.data.toList x4.size : Nat) : Int) from w64 (by omega) (by omega)] at s1
   by_cases e : s.toList = x0.toList
   ·exact ⟨_, Ev.step (fun k => spec_l1Read.l0.eq_2 ..) (Ev.neg (by omega) (Ev.pos c (Ev.bind s1 (Ev.pos e (Ev.now _))))), fun n _ _ q => by subst q; omega⟩
   ·exact ⟨_, Ev.step (fun k => spec_l1Read.l0.eq_2 ..) (Ev.neg (by omega) (Ev.pos c (Ev.bind s1 (Ev.neg e (Ev.now _))))), fun n _ _ q => by subst q; omega⟩
  ·have s1 := num_spec (pv x4.data.toList x4.size : Nat) (by omega) (by omega)
   by_cases e : (NI ((pv x4.data.toList x4.size : Nat) : Int)).toList = x0.toList
   ·refine ⟨_, Ev.step (fun k => spec_l1Read.l0.eq_2 ..) (Ev.neg (by omega) (Ev.neg c (Ev.bind s1 (Ev.pos e (Ev.now _))))), fun n _ q _ => ?_⟩
    have : pv x4.data.toList x4.size = n := by rw [q, T_data, T_size]; exact pv_dd n
    rw [this]
   ·refine ⟨_, Ev.step (fun k => spec_l1Read.l0.eq_2 ..) (Ev.neg (by omega) (Ev.neg c (Ev.bind s1 (Ev.neg e (Ev.now _))))), fun n _ q q2 => absurd ?_ e⟩
    have : pv x4.data.toList x4.size = n := by rw [q, T_data, T_size]; exact pv_dd n
    rw [this, q2, q]
    rfl
 | succ d ih =>
  intro i hi hd
  have hlt : i < x4.size := by omega
  have hbt := bt_list x4 i hlt
  have li : (i : Int) < (x4.size : Int) := by omega
  have hb := pv_lt x4.data.toList i (fun j hj => (hd j hj).2);have hp : 10 ^ i ≤ 10 ^ 6 := Nat.pow_le_pow_right (by decide) (by omega);have hb' : pv x4.data.toList i < 1000000 := Nat.lt_of_lt_of_le hb hp
  have no : ∀ n : Nat, x4 = T (Lib.decDigits n) → 48 ≤ (x4.data.toList.getD i 0).toNat ∧ (x4.data.toList.getD i 0).toNat ≤ 57 := fun n q => by
   have hl : i < (Lib.decDigits n).length := by rw [q, T_size] at hlt; exact hlt
   rw [q, T_data, List.getD_eq_getElem?_getD, List.getElem?_eq_getElem hl]
   exact dd_digit n _ (List.getElem_mem hl)
  by_cases c1 : (x4.data.toList.getD i 0).toNat < 48
  ·exact ⟨_, Ev.step (fun k => spec_l1Read.l0.eq_2 ..) (Ev.pos li (Ev.pos (by omega) (Ev.pos (by rw [hbt]; omega) (Ev.now _)))), fun n _ q _ => by have := (no n q).1; omega⟩
  ·by_cases c2 : 57 < (x4.data.toList.getD i 0).toNat
   ·exact ⟨_, Ev.step (fun k => spec_l1Read.l0.eq_2 ..) (Ev.pos li (Ev.pos (by omega) (Ev.neg (by rw [hbt]; omega) (Ev.pos (by rw [hbt]; omega) (Ev.now _))))), fun n _ q _ => by have := (no n q).2; omega⟩
   ·obtain ⟨r, r1, r2⟩ := ih (i + 1) (by omega) (fun j hj => by
     rcases Nat.lt_or_ge j i with q | q
     ·exact hd j q
     ·obtain rfl : j = i := by omega
      omega)
    refine ⟨r, Ev.step (fun k => spec_l1Read.l0.eq_2 ..) (Ev.pos li (Ev.pos (by omega) (Ev.neg (by rw [hbt]; omega) (Ev.neg (by rw [hbt]; omega) ?_)))), r2⟩
    have e1 : wrap64 ((i : Int) + 1) = ((i + 1 : Nat) : Int) := by rw [w64 (by omega) (by omega)]; rfl
    have e2 : wrap64 (10 * ((pv x4.data.toList i : Nat) : Int)) = 10 * ((pv x4.data.toList i : Nat) : Int) := w64 (by omega) (by omega)
    have e3 : wrap64 (wrap64 (10 * ((pv x4.data.toList i : Nat) : Int)) + (bt x4 i - 48) % 256) = ((pv x4.data.toList (i + 1) : Nat) : Int) := by
     rw [e2, hbt, show pv x4.data.toList (i + 1) = 10 * pv x4.data.toList i + ((x4.data.toList.getD i 0).toNat - 48) from rfl];generalize (x4.data.toList.getD i 0).toNat = c at *;generalize pv x4.data.toList i = p at *;clear e1 e2 r1 r2 ih hbt hp no hb;rw [w64 (by omega) (by omega)]
     omega
    rw [e1, e3]
    exact r1
theorem readAll (s : ByteArray) : ∃ r : Int × Bool, Ev (fun k => spec_l1Read.f k s) r ∧ ∀ n : Nat, n < 1000000 → s = T (Lib.decDigits n) → r = ((n : Int), true) := by
 unfold spec_l1Read.f
 have j1 : ∀ x4 : ByteArray, ∃ r : Int × Bool, Ev (fun k => spec_l1Read.j1 k s x4) r ∧ ∀ n : Nat, n < 1000000 → x4 = T (Lib.decDigits n) → s = x4 → r = ((n : Int), true) := by
  intro x4
  by_cases c : 1 ≤ (x4.size : Int) ∧ (x4.size : Int) ≤ 6
  ·obtain ⟨r, r1, r2⟩ := readLoop s x4 (by omega) x4.size 0 (by omega) (fun j hj => absurd hj (by omega))
   exact ⟨r, Ev.step (fun k => spec_l1Read.j1.eq_2 ..) (Ev.const (l1In_eq _ _ _) (Ev.pos (decide_eq_true c) r1)), fun n hn => r2 n (by omega)⟩
  ·refine ⟨(0, false), Ev.step (fun k => spec_l1Read.j1.eq_2 ..) (Ev.const (l1In_eq _ _ _) (Ev.neg (fun h => c (of_decide_eq_true h)) (Ev.now _))), fun n hn q _ => absurd ?_ c⟩;have h1 := dd_pos n;have h2 := dd_len 5 n (by omega);rw [q, T_size]
   omega
 by_cases c : (s.size : Int) > 1
 ·have hb := bt_list s 0 (by omega)
  by_cases c2 : bt s 0 = 45
  ·obtain ⟨r, r1, r2⟩ := j1 (s.extract 1 s.size);refine ⟨r, Ev.pos c (Ev.pos (by omega) (Ev.step (fun k => spec_l1Read.j0.eq_2 ..) (Ev.pos (by simp [c2]) (Ev.pos (by omega) r1)))), fun n hn q => ?_⟩;have hp := dd_pos n
   have hd := dd_digit n ((Lib.decDigits n).getD 0 0) (by
    rw [List.getD_eq_getElem?_getD, List.getElem?_eq_getElem hp]
    exact List.getElem_mem hp)
   rw [show (0 : Int) = ((0 : Nat) : Int) from rfl, hb, q, T_data] at c2
   omega
  ·obtain ⟨r, r1, r2⟩ := j1 s
   exact ⟨r, Ev.pos c (Ev.pos (by omega) (Ev.step (fun k => spec_l1Read.j0.eq_2 ..) (Ev.neg (by simp [c2]) r1))), fun n hn q => r2 n hn q rfl⟩
 ·obtain ⟨r, r1, r2⟩ := j1 s
  exact ⟨r, Ev.neg c (Ev.step (fun k => spec_l1Read.j0.eq_2 ..) (Ev.neg (by simp) r1)), fun n hn q => r2 n hn q rfl⟩
theorem readNI (x : Int) (h0 : 0 ≤ x) (h1 : x < 1000000) : Ev (fun k => spec_l1Read.f k (NI x)) (x, true) := by
 obtain ⟨r, r1, r2⟩ := readAll (NI x);have := r2 x.toNat (by omega) rfl;rw [Int.toNat_of_nonneg h0] at this;rw [← this]
 exact r1
def words (b : UInt8) : List UInt8 → List UInt8 → List (List UInt8)
 | acc, [] => [acc]
 | acc, c :: l => if c = b then acc :: words b [] l else words b (acc ++ [c]) l
theorem words_none {b : UInt8} : ∀ (l acc : List UInt8), b ∉ l → words b acc l = [acc ++ l]
 | [], acc, _ => by rw [List.append_nil]; rfl
 | c :: l, acc, h => by
  rw [List.mem_cons, not_or] at h
  unfold words
  rw [if_neg (fun e => h.1 e.symm), words_none l _ h.2, List.append_assoc]
  rfl
theorem words_hit {b : UInt8} : ∀ (l acc r : List UInt8), b ∉ l → words b acc (l ++ b :: r) = (acc ++ l) :: words b [] r
 | [], acc, r, _ => by
  rw [List.nil_append, List.append_nil, words, if_pos rfl]
 | c :: l, acc, r, h => by
  rw [List.mem_cons, not_or] at h;rw [List.cons_append, words, if_neg (fun e => h.1 e.symm), words_hit l _ r h.2, List.append_assoc]
  rfl
theorem ex_list (s : ByteArray) (a b : Nat) : s.extract a b = T ((s.data.toList.take b).drop a) := by
 apply str_ext
 rw [T_data, Lib.extract_data]
 first | rfl | (rw [List.drop_take]) | (rw [List.take_drop]; done)
theorem words_len (b : UInt8) : ∀ l acc : List UInt8, (words b acc l).length ≤ l.length + 1
 | [], _ => Nat.le_refl _
 | c :: l, acc => by
  unfold words
  split
  ·have := words_len b l [];simp only [List.length_cons]
   omega
  ·have := words_len b l (acc ++ [c]);simp only [List.length_cons]
   omega
theorem split_spec (a0 : ByteArray) (hs : a0.size ≤ 1000000) : Ev (fun k => spec_l1Split.f k a0 32) ((words 32 [] a0.data.toList).map T) := by
 unfold spec_l1Split.f
 have main : ∀ d i s : Nat, ∀ out : List ByteArray, i + d = a0.size → s ≤ i → out.length ≤ i →
   Ev (fun k => spec_l1Split.l0 k a0 32 out s i) (out ++ (words 32 ((a0.data.toList.take i).drop s) (a0.data.toList.drop i)).map T) := by
  intro d
  induction d with
  | zero =>
   intro i s out hi hsi ho
   obtain rfl : i = a0.size := by omega
   refine Ev.step (fun k => spec_l1Split.l0.eq_2 ..) (Ev.neg (by omega) (Ev.pos (by omega) (Ev.pos (by omega) (Ev.pos (by omega) (Ev.eq (Ev.now _) ?_)))));rw [Int.toNat_natCast, ex_list, List.drop_of_length_le (show a0.data.toList.length ≤ a0.size from Nat.le_refl _)]
   rfl
  | succ d ih =>
   intro i s out hi hsi ho;have hlt : i < a0.data.toList.length := (by omega : i < a0.size)
   have li : (i : Int) < (a0.size : Int) := by omega
   have hbt := bt_list a0 i (by omega)
   have w1 : wrap64 ((i : Int) + 1) = ((i + 1 : Nat) : Int) := by rw [w64 (by omega) (by omega)]; rfl
   have eg : a0.data.toList.getD i 0 = a0.data.toList[i] := by rw [List.getD_eq_getElem?_getD, List.getElem?_eq_getElem hlt]; rfl
   rw [eg] at hbt;rw [List.drop_eq_getElem_cons hlt]
   by_cases c : a0.data.toList[i] = 32
   ·have k := ih (i + 1) (i + 1) (out ++ [a0.extract s i]) (by omega) (Nat.le_refl _) (by rw [List.length_append, List.length_singleton]; omega);rw [← w1] at k;refine Ev.step (fun k => spec_l1Split.l0.eq_2 ..) (Ev.pos li (Ev.pos (by omega) (Ev.pos (by rw [hbt, c]; rfl) (Ev.pos (by omega) (Ev.pos (by omega) (Ev.pos (by omega) (Ev.pos (by omega) ?_)))))));refine Ev.eq k ?_;rw [words, if_pos c, ex_list, List.append_assoc, List.drop_of_length_le (by rw [List.length_take]; omega : (a0.data.toList.take (i + 1)).length ≤ i + 1)]
    rfl
   ·have k := ih (i + 1) s out (by omega) (by omega) (by omega);rw [← w1] at k
    have cn : ¬ bt a0 (i : Int) = 32 := fun h => by
     rw [hbt] at h
     exact c (UInt8.toNat_inj.1 (show a0.data.toList[i].toNat = 32 by omega))
    refine Ev.step (fun k => spec_l1Split.l0.eq_2 ..) (Ev.pos li (Ev.pos (by omega) (Ev.neg cn ?_)));refine Ev.eq k ?_;rw [words, if_neg c, ← List.take_append_getElem hlt, List.drop_append_of_le_length (by rw [List.length_take]; omega)]
 have := main a0.size 0 0 [] (by omega) (Nat.le_refl _) (Nat.le_refl _)
 exact this
theorem idx_at (c : UInt8) (s : List UInt8) : ∀ p r : List UInt8, c ∉ p → Lib.index (p ++ ((c :: s) ++ r)) (c :: s) = (p.length : Int)
 | [], r, _ => by
  rw [List.nil_append, List.cons_append, Lib.index, if_pos]
  ·rfl
  ·rw [← List.cons_append, List.isPrefixOf_iff_prefix]
   exact List.prefix_append _ _
 | b :: p, r, h => by
  rw [List.mem_cons, not_or] at h;rw [List.cons_append, Lib.index, if_neg, idx_at c s p r h.2, if_neg]
  ·rw [List.length_cons]
   rfl
  ·rw [beq_iff_eq]
   omega
  ·rw [List.isPrefixOf_iff_prefix];intro q
   exact h.1 (List.cons_prefix_cons.1 q).1
theorem idx_none (c : UInt8) (s : List UInt8) : ∀ p : List UInt8, c ∉ p → Lib.index p (c :: s) = -1
 | [], _ => rfl
 | b :: p, h => by
  rw [List.mem_cons, not_or] at h;rw [Lib.index, if_neg, idx_none c s p h.2]
  ·rfl
  ·rw [List.isPrefixOf_iff_prefix];intro q
   exact h.1 (List.cons_prefix_cons.1 q).1
theorem join_step (sep p q : List UInt8) (r : List (List UInt8)) : Lib.join (p :: q :: r) sep = p ++ (sep ++ Lib.join (q :: r) sep) := by
 rw [Lib.join_cons, Lib.join_cons]
 unfold Lib.joinTail
 rw [List.map_cons, List.flatten_cons, List.append_assoc]
theorem split_join (c : UInt8) (s : List UInt8) : ∀ (ps : List (List UInt8)) (p : List UInt8), (∀ x ∈ p :: ps, c ∉ x) →
  Lib.splitK (c :: s) 0 (Lib.count (Lib.join (p :: ps) (c :: s)) (c :: s)) (Lib.join (p :: ps) (c :: s)) = p :: ps
 | [], p, h => by
  rw [Lib.join_one, Lib.count_miss (idx_none c s p (h p List.mem_cons_self))]
  rfl
 | q :: r, p, h => by
  have hp := h p List.mem_cons_self;have ih := split_join c s r q (fun x hx => h x (List.mem_cons_of_mem _ hx));have hi := idx_at c s p (Lib.join (q :: r) (c :: s)) hp
  have hd : (p ++ ((c :: s) ++ Lib.join (q :: r) (c :: s))).drop (p.length + (c :: s).length) = Lib.join (q :: r) (c :: s) := by
   rw [← List.append_assoc, ← List.length_append, List.drop_left]
  rw [join_step, Lib.count_hit (by simp) hi, hd, Nat.add_comm, Lib.splitK, if_neg (by rw [hi, beq_iff_eq]; omega), hi, Int.toNat_natCast, hd, ih, Nat.add_zero, List.take_left]
theorem cut_at (c : UInt8) (s p r : List UInt8) (h : c ∉ p) : Lib.cut (p ++ ((c :: s) ++ r)) (c :: s) = (p, r, true) := by
 unfold Lib.cut
 rw [idx_at c s p r h, if_pos (by omega), Int.toNat_natCast, List.take_left, ← List.append_assoc, ← List.length_append, List.drop_left]
theorem splitB_sizes (sep : ByteArray) : ∀ (k : Nat) (s x : ByteArray), x ∈ Lib.splitB sep 0 k s → x.size ≤ s.size
 | 0, s, x, h => by
  rw [Lib.splitB_zero, List.mem_singleton] at h;subst h
  exact Nat.le_refl _
 | k + 1, s, x, h => by
  unfold Lib.splitB at h
  split at h
  ·rw [List.mem_singleton] at h;subst h
   exact Nat.le_refl _
  ·rw [List.mem_cons] at h
   rcases h with rfl | h
   ·rw [ByteArray.size_extract]
    omega
   ·have := splitB_sizes sep k _ x h;rw [ByteArray.size_extract] at this
    omega
theorem T_map (l : List (List UInt8)) : (l.map T).map (·.data.toList) = l := by
 rw [List.map_map]
 exact (List.map_congr_left (fun x _ => T_data x)).trans (List.map_id l)
theorem of_data {a : List ByteArray} {b : List (List UInt8)} (h : a.map (·.data.toList) = b) : a = b.map T := by
 subst h;rw [List.map_map]
 exact ((List.map_congr_left (fun x _ => T_of x)).trans (List.map_id a)).symm
theorem splits (a0 : ByteArray) (h : a0.size ≤ 1048576) : ∃ L : List ByteArray, strings_Split.f a0 (⟨#[44, 32]⟩ : ByteArray) = some L ∧ L.length ≤ 1048577 ∧ (∀ x ∈ L, x.size ≤ 1048576) ∧
  ∀ (p : List UInt8) (ps : List (List UInt8)), (∀ x ∈ p :: ps, (44 : UInt8) ∉ x) → a0 = T (Lib.join (p :: ps) [44, 32]) → L = (p :: ps).map T := by
 have e : (⟨#[44, 32]⟩ : ByteArray).size = 2 := rfl;have hc := Lib.countB_le (⟨#[44, 32]⟩ : ByteArray) (by rw [e]; decide) _ a0 (Nat.le_refl _);have hl := Lib.splitB_all (⟨#[44, 32]⟩ : ByteArray) (by rw [e]; decide) 0 _ a0 rfl;refine ⟨_, by unfold strings_Split.f; rw [if_pos ⟨by omega, by rw [e]; decide⟩], by omega, fun x hx => ?_, fun p ps hp ha => ?_⟩
 ·have := splitB_sizes _ _ a0 x hx
  omega
 ·refine of_data ((Lib.splitB_data _ 0 _ a0).trans ?_)
  show Lib.splitK [44, 32] 0 (Lib.count a0.data.toList [44, 32]) a0.data.toList = p :: ps
  rw [ha, T_data]
  exact split_join 44 [32] ps p hp
theorem tl (s : ByteArray) : s.toList = s.data.toList := ByteArray.toList_eq ..
theorem trimSuffix (s t : ByteArray) (hs : s.size ≤ 1048576) (ht : t.size ≤ 1000) : ∃ r, strings_TrimSuffix.f s t = some r ∧ r.size ≤ s.size ∧ ∀ a : ByteArray, s = a ++ t → r = a := by
 unfold strings_TrimSuffix.f stringslite_TrimSuffix.f stringslite_HasSuffix.f
 by_cases c : (s.size : Int) ≥ (t.size : Int)
 ·have w : wrap64 ((s.size : Int) - (t.size : Int)) = (s.size : Int) - (t.size : Int) := w64 (by omega) (by omega);rw [w, if_pos c, if_pos (by omega), if_pos (by omega), Option.bind_some]
  have n : ((s.size : Int) - (t.size : Int)).toNat = s.size - t.size := by omega
  rw [n]
  by_cases q : ((s.extract (s.size - t.size) s.size).toList == t.toList) = true
  ·rw [if_pos q, if_pos (by omega), if_pos (by omega)];refine ⟨_, rfl, by rw [ByteArray.size_extract]; omega, fun a ha => ?_⟩;subst ha;rw [ByteArray.size_append, Nat.add_sub_cancel]
   apply str_ext
   rw [Lib.extract_from_zero, ByteArray.data_append, Array.toList_append]
   exact List.take_left
  ·rw [if_neg q];refine ⟨s, rfl, Nat.le_refl _, fun a ha => absurd ?_ q⟩;subst ha;rw [beq_iff_eq, tl, tl, ByteArray.size_append, Nat.add_sub_cancel, ex_list, T_data, ByteArray.data_append, Array.toList_append, List.take_of_length_le (by rw [List.length_append]; exact Nat.le_refl _)]
   exact List.drop_left
 ·rw [if_neg c, Option.bind_some, if_neg (by decide)];refine ⟨s, rfl, Nat.le_refl _, fun a ha => absurd ?_ c⟩;subst ha;rw [ByteArray.size_append]
  omega
theorem trimPrefix (s t : ByteArray) (hs : s.size ≤ 1048576) (ht : t.size ≤ 1000) : ∃ r, strings_TrimPrefix.f s t = some r ∧ r.size ≤ s.size ∧ ∀ a : ByteArray, s = t ++ a → r = a := by
 unfold strings_TrimPrefix.f stringslite_TrimPrefix.f stringslite_HasPrefix.f
 by_cases c : (s.size : Int) ≥ (t.size : Int)
 ·rw [if_pos c, if_pos (by omega), if_pos (by omega), Option.bind_some, Int.toNat_natCast]
  by_cases q : ((s.extract 0 t.size).toList == t.toList) = true
  ·rw [if_pos q, if_pos (by omega), if_pos (by omega)];refine ⟨_, rfl, by rw [ByteArray.size_extract]; omega, fun a ha => ?_⟩;subst ha
   apply str_ext
   rw [ex_list, T_data, ByteArray.data_append, Array.toList_append, List.take_of_length_le (by rw [ByteArray.size_append, List.length_append]; exact Nat.le_refl _)]
   exact List.drop_left
  ·rw [if_neg q];refine ⟨s, rfl, Nat.le_refl _, fun a ha => absurd ?_ q⟩;subst ha;rw [beq_iff_eq, tl, tl, Lib.extract_from_zero, ByteArray.data_append, Array.toList_append]
   exact List.take_left
 ·rw [if_neg c, Option.bind_some, if_neg (by decide)];refine ⟨s, rfl, Nat.le_refl _, fun a ha => absurd ?_ c⟩;subst ha;rw [ByteArray.size_append]
  omega
theorem parseInt (s : ByteArray) (hs : s.size ≤ 1048576) : ∃ r : Int × Bool, impl_ParseInt.f s = some r ∧ ∀ x : Int, 0 ≤ x → x ≤ 999999 → s = NI x → r = (x, true) := by
 unfold impl_ParseInt.f
 rw [if_pos (by omega)]
 cases ha : atoiOf s with
 | none =>
  refine ⟨_, rfl, fun x h0 h1 q => ?_⟩
  unfold atoiOf at ha
  rw [q, show (NI x).data.toList = Lib.decDigits x.toNat from T_data _, atoi_dd _ (by omega)] at ha;cases ha
 | some v =>
  simp only [];rw [within_eq, Option.bind_some]
  have hx : ∀ x : Int, 0 ≤ x → x ≤ 999999 → s = NI x → v = x := fun x h0 h1 q => by
   unfold atoiOf at ha
   rw [q, show (NI x).data.toList = Lib.decDigits x.toNat from T_data _, atoi_dd _ (by omega)] at ha;have := Option.some.inj ha
   omega
  by_cases c : -999999 ≤ v ∧ v ≤ 999999
  ·rw [if_pos (decide_eq_true c)]
   obtain ⟨t, ht⟩ : ∃ t, impl_decimal.f v = some t := by
    unfold impl_decimal.f strconv_Itoa_59.f
    rw [if_pos ⟨by omega, by omega⟩]
    exact ⟨_, rfl⟩
   rw [ht, Option.bind_some]
   by_cases e : t.toList = s.toList
   ·rw [if_pos e]
    exact ⟨_, rfl, fun x h0 h1 q => by rw [hx x h0 h1 q]⟩
   ·rw [if_neg e];refine ⟨_, rfl, fun x h0 h1 q => absurd ?_ e⟩;have hv := hx x h0 h1 q;subst hv;rw [num_impl v h0 (by omega)] at ht;rw [← Option.some.inj ht, q]
  ·rw [if_neg (fun h => c (of_decide_eq_true h))]
   exact ⟨_, rfl, fun x h0 h1 q => absurd (by have := hx x h0 h1 q; omega) c⟩
def D (x : Int) : List UInt8 := Lib.decDigits x.toNat
theorem NI_D (x : Int) : NI x = T (D x) := rfl
theorem D_no (c : UInt8) (hc : c.toNat < 48) (x : Int) : c ∉ D x := fun h => by
 have := dd_digit _ c h
 omega
def tail (g : Int) : List S45 → List UInt8
 | [] => [44, 32] ++ ([108, 97, 114, 103, 101] ++ 32 :: D g)
 | x :: st => [44, 32] ++ ((D x.f0 ++ 32 :: ([120] ++ 32 :: D x.f1)) ++ tail g st)
def sl (x : S45) : List UInt8 := D x.f0 ++ ([32, 120, 32] ++ D x.f1)
def pl (g : Int) : List S45 → List (List UInt8)
 | [] => [[108, 97, 114, 103, 101, 32] ++ D g]
 | x :: st => sl x :: pl g st
theorem pl_ne (g : Int) (st : List S45) : ∃ q r, pl g st = q :: r := by
 cases st with
 | nil => exact ⟨_, _, rfl⟩
 | cons x st => exact ⟨_, _, rfl⟩
theorem tail_pl (g : Int) : ∀ st : List S45, Lib.joinTail [44, 32] (pl g st) = tail g st
 | [] => by
  unfold Lib.joinTail pl tail
  simp
 | x :: st => by
  have ih := tail_pl g st
  unfold Lib.joinTail at ih
  unfold Lib.joinTail pl tail
  rw [List.map_cons, List.flatten_cons, ih]
  unfold sl
  simp
theorem steps_eq (st : List S45) (g : Int) : ((List.range st.length).map (stepText st) ++ [(⟨#[108, 97, 114, 103, 101, 32]⟩ : ByteArray) ++ NI g]).map (·.data.toList) = pl g st := by
 have e : (List.range st.length).map (stepText st) = st.map (fun x => (NI x.f0 ++ (⟨#[32, 120, 32]⟩ : ByteArray)) ++ NI x.f1) := by
  apply List.ext_getElem
  ·simp
  ·intro i h1 h2
   have hi : i < st.length := by simpa using h1
   rw [List.getElem_map, List.getElem_map, List.getElem_range]
   have : rd_T45 st (i : Int) = st[i] := by
    unfold rd_T45
    rw [Int.toNat_natCast]
    exact getD_of (List.getElem?_eq_getElem hi)
   unfold stepText
   rw [this]
 rw [e]
 have main : ∀ l : List S45, (l.map (fun x => (NI x.f0 ++ (⟨#[32, 120, 32]⟩ : ByteArray)) ++ NI x.f1) ++ [(⟨#[108, 97, 114, 103, 101, 32]⟩ : ByteArray) ++ NI g]).map (·.data.toList) = pl g l := by
  intro l
  induction l with
  | nil =>
   show [((⟨#[108, 97, 114, 103, 101, 32]⟩ : ByteArray) ++ NI g).data.toList] = pl g []
   rw [ByteArray.data_append, Array.toList_append]
   rfl
  | cons x l ih =>
   rw [List.map_cons, List.cons_append, List.map_cons, ih]
   show _ :: _ = sl x :: _
   rw [ByteArray.data_append, Array.toList_append, ByteArray.data_append, Array.toList_append, List.append_assoc]
   rfl
 exact main st
theorem TX_join (f : Int) (st : List S45) (g : Int) : TX f st g = T (Lib.join ((D f ++ [32, 102, 114, 101, 101]) :: pl g st) [44, 32]) := by
 unfold TX J P
 rw [List.cons_append, List.map_cons, steps_eq, ByteArray.data_append, Array.toList_append]
 rfl
theorem TX_tail (f : Int) (st : List S45) (g : Int) : TX f st g = T (D f ++ 32 :: ([102, 114, 101, 101] ++ tail g st)) := by
 rw [TX_join, Lib.join_cons, tail_pl, List.append_assoc]
 rfl
theorem D_len (x : Int) (h0 : 0 ≤ x) (h1 : x ≤ 10000) : (D x).length ≤ 5 := dd_len 4 x.toNat (by omega)
theorem tail_len (g : Int) (hg : 100 ≤ g ∧ g ≤ 300) : ∀ st : List S45, (∀ x ∈ st, stepOk x) → (tail g st).length ≤ 15 * st.length + 13
 | [], _ => by
  have := D_len g (by omega) (by omega)
  unfold tail
  simp only [List.length_append, List.length_cons, List.length_nil]
  omega
 | x :: st, h => by
  have hx := h x List.mem_cons_self;have h1 := D_len x.f0 (by have := hx.1; omega) (by have := hx.1; omega);have h2 := D_len x.f1 hx.2.1 hx.2.2;have ih := tail_len g hg st (fun y hy => h y (List.mem_cons_of_mem _ hy))
  unfold tail
  simp only [List.length_append, List.length_cons, List.length_nil]
  omega
theorem good_mem {f : Int} {st : List S45} {g : Int} (hg : Good f st g) : ∀ x ∈ st, stepOk x := fun x hx => by
 obtain ⟨i, hi, rfl⟩ := List.getElem_of_mem hx;have := hg.2.2.2 i hi
 have e : rd_T45 st (i : Int) = st[i] := by
  unfold rd_T45
  rw [Int.toNat_natCast]
  exact getD_of (List.getElem?_eq_getElem hi)
 rw [e] at this
 exact this
theorem TX_size {f : Int} {st : List S45} {g : Int} (hg : Good f st g) : (TX f st g).size ≤ 200 := by
 have h1 := D_len f hg.1.1 (by have := hg.1.2; omega);have h2 := tail_len g hg.2.2.1 st (good_mem hg);have h3 := hg.2.1.2;rw [TX_tail, T_size];simp only [List.length_append, List.length_cons, List.length_nil]
 omega
def WL (g : Int) : List UInt8 → List S45 → List (List UInt8)
 | acc, [] => [acc ++ [44], [108, 97, 114, 103, 101], D g]
 | acc, x :: st => (acc ++ [44]) :: D x.f0 :: [120] :: WL g (D x.f1) st
theorem words_tail (g : Int) : ∀ (st : List S45) (acc : List UInt8), words 32 acc (tail g st) = WL g acc st
 | [], acc => by
  unfold tail WL
  rw [show ([44, 32] : List UInt8) ++ ([108, 97, 114, 103, 101] ++ 32 :: D g) = [44] ++ 32 :: ([108, 97, 114, 103, 101] ++ 32 :: D g) from rfl, words_hit _ _ _ (by decide), words_hit _ _ _ (by decide), words_none _ _ (D_no 32 (by decide) g)]
  rfl
 | x :: st, acc => by
  unfold tail WL
  rw [show ([44, 32] : List UInt8) ++ ((D x.f0 ++ 32 :: ([120] ++ 32 :: D x.f1)) ++ tail g st) = [44] ++ 32 :: (D x.f0 ++ 32 :: ([120] ++ 32 :: (D x.f1 ++ tail g st))) from by simp, words_hit _ _ _ (by decide), words_hit _ _ _ (D_no 32 (by decide) _), words_hit _ _ _ (by decide)]
  have e : words 32 [] (D x.f1 ++ tail g st) = words 32 (D x.f1) (tail g st) := by
   have gen : ∀ (l acc r : List UInt8), (32 : UInt8) ∉ l → words 32 acc (l ++ r) = words 32 (acc ++ l) r := by
    intro l
    induction l with
    | nil => intro acc r _; rw [List.append_nil]; rfl
    | cons c l ih =>
     intro acc r h;rw [List.mem_cons, not_or] at h;rw [List.cons_append, words, if_neg (fun e => h.1 e.symm), ih _ _ h.2, List.append_assoc]
     rfl
   rw [gen _ _ _ (D_no 32 (by decide) _)]
   rfl
  rw [e, words_tail g st (D x.f1)]
  rfl
theorem WL_len (g : Int) : ∀ (st : List S45) (acc : List UInt8), (WL g acc st).length = 3 * st.length + 3
 | [], _ => rfl
 | x :: st, acc => by
  unfold WL
  simp only [List.length_cons, WL_len g st]
  omega
theorem WL_head (g : Int) (acc : List UInt8) (st : List S45) : ∃ r, WL g acc st = (acc ++ [44]) :: r := by
 cases st with
 | nil => exact ⟨_, rfl⟩
 | cons x st => exact ⟨_, rfl⟩
theorem WL_last (g : Int) : ∀ (st : List S45) (acc : List UInt8), ∃ r, WL g acc st = r ++ [D g]
 | [], acc => ⟨[acc ++ [44], [108, 97, 114, 103, 101]], rfl⟩
 | x :: st, acc => by
  obtain ⟨r, hr⟩ := WL_last g st (D x.f1)
  exact ⟨(acc ++ [44]) :: D x.f0 :: [120] :: r, by unfold WL; rw [hr]; rfl⟩
def Told (a0 : ByteArray) (r : Int × List S45 × Int × Bool) : Prop := r.2.1.length ≤ 1048577 ∧ (r = (0, [], 0, false) ∨ (Good r.1 r.2.1 r.2.2.1 ∧ r.2.2.2 = true ∧ a0 = TX r.1 r.2.1 r.2.2.1))
theorem specText (f : Int) (st : List S45) (hl : st.length ≤ 1048577) (g : Int) : ∃ r : ByteArray × Bool, Ev (fun k => spec_ChargeText.f k f st g) r ∧ (r.2 = true → Good f st g ∧ r.1 = TX f st g) ∧ (Good f st g → r = (TX f st g, true)) := by
 obtain ⟨b, b1, _, b3⟩ := good f st hl g
 unfold spec_ChargeText.f
 by_cases cb : b = true
 ·have hg := b3.1 cb;have s1 := (chargeTextsAt f st g hg).1;have s0 := NI_size f hg.1.1 (by have := hg.1.2; omega)
  exact ⟨(TX f st g, true), Ev.bind b1 (Ev.pos cb (Ev.bind (num_spec f hg.1.1 (by have := hg.1.2; omega)) (Ev.pos (by omega) s1))), fun _ => ⟨hg, rfl⟩, fun _ => rfl⟩
 ·exact ⟨((⟨#[]⟩ : ByteArray), false), Ev.bind b1 (Ev.neg cb (Ev.now _)), fun h => (by cases h), fun h => absurd (b3.2 h) cb⟩
theorem specEnd (a0 : ByteArray) (L : List ByteArray) (n i f : Int) (st : List S45) (g : Int) (hl : st.length ≤ 1000000) (hi : ¬ wrap64 (i + 2) < n) : ∃ r, Ev (fun k => spec_ParseCharge.l0 k a0 L n i f st g) r ∧ Told a0 r ∧ (Good f st g → a0 = TX f st g → r = (f, st, g, true)) := by
 obtain ⟨t, t1, t2, t3⟩ := specText f st (by omega) g
 by_cases c : t.2 = true
 ·obtain ⟨hg, ht⟩ := t2 c
  by_cases e : t.1.toList = a0.toList
  ·exact ⟨(f, st, g, true), Ev.step (fun k => spec_ParseCharge.l0.eq_2 ..) (Ev.neg hi (Ev.bind t1 (Ev.pos c (Ev.pos e (Ev.now _))))), ⟨by show st.length ≤ _; omega, Or.inr ⟨hg, rfl, by show a0 = _; rw [← ht]; exact (str_eq.1 e).symm⟩⟩, fun _ _ => rfl⟩
  ·exact ⟨(0, [], 0, false), Ev.step (fun k => spec_ParseCharge.l0.eq_2 ..) (Ev.neg hi (Ev.bind t1 (Ev.pos c (Ev.neg e (Ev.now _))))), ⟨Nat.zero_le _, Or.inl rfl⟩, fun _ q => absurd (by rw [ht, q]) e⟩
 ·exact ⟨(0, [], 0, false), Ev.step (fun k => spec_ParseCharge.l0.eq_2 ..) (Ev.neg hi (Ev.bind t1 (Ev.neg c (Ev.now _)))), ⟨Nat.zero_le _, Or.inl rfl⟩, fun hg _ => absurd (by rw [t3 hg]) c⟩
theorem rdOf_at {L : List ByteArray} (i : Nat) (h : i < L.length) : rdOf ByteArray.empty L (i : Int) = L[i] := by
 unfold rdOf
 rw [Int.toNat_natCast]
 exact getD_of (List.getElem?_eq_getElem h)
theorem specLoop (a0 : ByteArray) (L : List ByteArray) (hL : L.length ≤ 300) (hz : ∀ x ∈ L, x.size ≤ 1000) (f g : Int) : ∀ d i : Nat, L.length ≤ i + d → i ≤ 400 → ∀ st : List S45, st.length ≤ i →
  ∃ r, Ev (fun k => spec_ParseCharge.l0 k a0 L L.length i f st g) r ∧ Told a0 r := by
 intro d
 induction d with
 | zero =>
  intro i h1 h2 st hs;obtain ⟨r, r1, r2, _⟩ := specEnd a0 L L.length i f st g (by omega) (by rw [w64 (by omega) (by omega)]; omega)
  exact ⟨r, r1, r2⟩
 | succ d ih =>
  intro i h1 h2 st hs
  by_cases c : (i : Int) + 2 < L.length
  ·have w2 : wrap64 ((i : Int) + 2) = ((i + 2 : Nat) : Int) := by rw [w64 (by omega) (by omega)]; rfl
   have w3 : wrap64 ((i : Int) + 3) = ((i + 3 : Nat) : Int) := by rw [w64 (by omega) (by omega)]; rfl
   have no : Told a0 (0, [], 0, false) := ⟨Nat.zero_le _, Or.inl rfl⟩;have hx := rdOf_at (L := L) (i + 2) (by omega);have hs2 := hz _ (List.getElem_mem (show i + 2 < L.length by omega));obtain ⟨p, p1, _⟩ := readAll (rdOf ByteArray.empty L i)
   have g1 : wrap64 ((i : Int) + 2) < (L.length : Int) := by rw [w2]; omega
   have g2 : 0 ≤ wrap64 ((i : Int) + 2) := by rw [w2]; omega
   rw [← w2] at hx
   by_cases c1 : (L[i + 2].size : Int) < 2
   ·exact ⟨_, Ev.step (fun k => spec_ParseCharge.l0.eq_2 ..) (Ev.pos g1 (Ev.pos g2 (Ev.pos g1 (Ev.pos (by rw [hx]; exact c1) (Ev.now _))))), no⟩
   ·have w4 : wrap64 ((L[i + 2].size : Int) - 1) = (L[i + 2].size : Int) - 1 := w64 (by omega) (by omega);obtain ⟨q, q1, _⟩ := readAll ((rdOf ByteArray.empty L (wrap64 ((i : Int) + 2))).extract 0 ((wrap64 (((rdOf ByteArray.empty L (wrap64 ((i : Int) + 2))).size : Int) - 1)) : Int).toNat)
    have base : ∀ r, Ev (fun k => if p.2 = true then (if q.2 = true then (if st.length < 8796093022208 then spec_ParseCharge.l0 k a0 L L.length (wrap64 ((i : Int) + 3)) f (st ++ [(⟨p.1, q.1⟩ : S45)]) g else none) else some (0, [], 0, false)) else some (0, [], 0, false)) r →
      Ev (fun k => spec_ParseCharge.l0 k a0 L L.length i f st g) r := fun r hr =>
     Ev.step (fun k => spec_ParseCharge.l0.eq_2 ..) (Ev.pos g1 (Ev.pos g2 (Ev.pos g1 (Ev.neg (by rw [hx]; exact c1) (Ev.pos (by omega) (Ev.pos (by omega) (Ev.bind p1 (Ev.pos (by rw [hx, w4]; omega) (Ev.pos (by rw [hx, w4]; omega) (Ev.bind q1 hr))))))))))
    by_cases cp : p.2 = true
    ·by_cases cq : q.2 = true
     ·obtain ⟨r, r1, r2⟩ := ih (i + 3) (by omega) (by omega) (st ++ [(⟨p.1, q.1⟩ : S45)]) (by rw [List.length_append, List.length_singleton]; omega);rw [← w3] at r1
      exact ⟨r, base r (Ev.pos cp (Ev.pos cq (Ev.pos (by omega) r1))), r2⟩
     ·exact ⟨_, base _ (Ev.pos cp (Ev.neg cq (Ev.now _))), no⟩
    ·exact ⟨_, base _ (Ev.neg cp (Ev.now _)), no⟩
  ·obtain ⟨r, r1, r2, _⟩ := specEnd a0 L L.length i f st g (by omega) (by rw [w64 (by omega) (by omega)]; exact c)
   exact ⟨r, r1, r2⟩
theorem extract_front (a b : List UInt8) : (T (a ++ b)).extract 0 a.length = T a := by
 rw [ex_list, T_data]
 show T (List.take a.length (a ++ b)) = T a
 rw [List.take_left]
theorem specSteps (f g : Int) (st0 : List S45) (hg : Good f st0 g) (L : List ByteArray) (hL : L.length ≤ 300) : ∀ (rest : List S45) (pre : List (List UInt8)) (acc : List UInt8) (done : List S45) (i : Nat),
  L = (pre ++ WL g acc rest).map T → i = pre.length + 1 → (∀ x ∈ rest, stepOk x) → done.length ≤ i → done ++ rest = st0 → Ev (fun k => spec_ParseCharge.l0 k (TX f st0 g) L L.length i f done g) (f, st0, g, true)
 | [], pre, acc, done, i, hl, hi, hr, hd, he => by
  have len : L.length = pre.length + 3 := by rw [hl, List.length_map, List.length_append]; rfl
  rw [List.append_nil] at he;subst he;have h1 := hg.2.1.2;obtain ⟨r, r1, _, r3⟩ := specEnd (TX f done g) L L.length i f done g (by omega) (by rw [w64 (by omega) (by omega)]; omega);rw [r3 hg rfl] at r1
  exact r1
 | x :: rest, pre, acc, done, i, hl, hi, hr, hd, he => by
  obtain ⟨r, hr0⟩ := WL_head g (D x.f1) rest
  have len : L.length = pre.length + (3 * rest.length + 6) := by
   rw [hl, List.length_map, List.length_append, WL_len, List.length_cons]
   omega
  have hx := hr x List.mem_cons_self
  have eL : L = (pre ++ ((acc ++ [44]) :: D x.f0 :: [120] :: (D x.f1 ++ [44]) :: r)).map T := by
   rw [hl]
   unfold WL
   rw [hr0]
  have a1 : L[i]'(by omega) = T (D x.f0) := by
   have : L[i]? = some (T (D x.f0)) := by
    rw [eL, List.getElem?_map, List.getElem?_append_right (by omega), show i - pre.length = 1 from by omega]
    rfl
   rw [List.getElem?_eq_getElem (by omega)] at this
   exact Option.some.inj this
  have a2 : L[i + 2]'(by omega) = T (D x.f1 ++ [44]) := by
   have : L[i + 2]? = some (T (D x.f1 ++ [44])) := by
    rw [eL, List.getElem?_map, List.getElem?_append_right (by omega), show i + 2 - pre.length = 3 from by omega]
    rfl
   rw [List.getElem?_eq_getElem (by omega)] at this
   exact Option.some.inj this
  have w2 : wrap64 ((i : Int) + 2) = ((i + 2 : Nat) : Int) := by rw [w64 (by omega) (by omega)]; rfl
  have w3 : wrap64 ((i : Int) + 3) = ((i + 3 : Nat) : Int) := by rw [w64 (by omega) (by omega)]; rfl
  have hx2 := rdOf_at (L := L) (i + 2) (by omega);rw [a2, ← w2] at hx2;have hx1 := rdOf_at (L := L) i (by omega);rw [a1] at hx1
  have g1 : wrap64 ((i : Int) + 2) < (L.length : Int) := by rw [w2]; omega
  have g2 : 0 ≤ wrap64 ((i : Int) + 2) := by rw [w2]; omega
  have p1 := readNI x.f0 (by have := hx.1; omega) (by have := hx.1; omega);have q1 := readNI x.f1 hx.2.1 (by have := hx.2; omega);rw [NI_D, ← hx1] at p1
  have dl := dd_pos x.f1.toNat
  have dl2 := D_len x.f1 hx.2.1 hx.2.2
  have sz : (T (D x.f1 ++ [44])).size = (D x.f1).length + 1 := by rw [T_size, List.length_append]; rfl
  have w4 : (wrap64 (((T (D x.f1 ++ [44])).size : Int) - 1)) = ((D x.f1).length : Int) := by rw [sz, w64 (by omega) (by omega)]; omega
  have ih := specSteps f g st0 hg L hL rest (pre ++ [acc ++ [44], D x.f0, [120]]) (D x.f1) (done ++ [x]) (i + 3) (by rw [hl, List.append_assoc]; rfl) (by rw [List.length_append]; show _ = pre.length + 3 + 1; omega) (fun y hy => hr y (List.mem_cons_of_mem _ hy)) (by rw [List.length_append, List.length_singleton]; omega) (by rw [List.append_assoc]; exact he);rw [← w3] at ih;have dn : (D x.f1).length = (Lib.decDigits x.f1.toNat).length := rfl;refine Ev.step (fun k => spec_ParseCharge.l0.eq_2 ..) (Ev.pos g1 (Ev.pos g2 (Ev.pos g1 (Ev.neg (by rw [hx2, sz]; omega) (Ev.pos (by omega) (Ev.pos (by omega) (Ev.bind p1 (Ev.pos (by rw [hx2, w4]; omega) (Ev.pos (by rw [hx2, w4, sz]; omega) ?_)))))))));rw [hx2, w4, Int.toNat_natCast, extract_front, ← NI_D]
  exact Ev.bind q1 (Ev.pos rfl (Ev.pos rfl (Ev.pos (by omega) ih)))
theorem words_sizes (b : UInt8) : ∀ l acc : List UInt8, ∀ w ∈ words b acc l, w.length ≤ acc.length + l.length
 | [], acc, w, h => by
  rw [words, List.mem_singleton] at h;subst h
  exact Nat.le_refl _
 | c :: l, acc, w, h => by
  unfold words at h
  split at h
  ·rw [List.mem_cons] at h
   rcases h with rfl | h
   ·omega
   ·have := words_sizes b l [] w h;simp only [List.length_cons, List.length_nil] at *
    omega
  ·have := words_sizes b l _ w h;simp only [List.length_cons, List.length_append, List.length_nil] at *
   omega
theorem specParse (a0 : ByteArray) (hs : a0.size ≤ 1048576) : ∃ r, Ev (fun k => spec_ParseCharge.f k a0) r ∧ Told a0 r ∧ ∀ f st g, Good f st g → a0 = TX f st g → r = (f, st, g, true) := by
 have no : Told a0 (0, [], 0, false) := ⟨Nat.zero_le _, Or.inl rfl⟩
 unfold spec_ParseCharge.f
 by_cases c : (a0.size : Int) > 200
 ·exact ⟨_, Ev.pos c (Ev.now _), no, fun f st g hg q => by have := TX_size hg; rw [← q] at this; omega⟩
 ·have w := split_spec a0 (by omega);generalize hL : (words 32 [] a0.data.toList).map T = L at w
  have len : L.length ≤ 201 := by
   rw [← hL, List.length_map];have := words_len 32 a0.data.toList [];have e : a0.data.toList.length = a0.size := rfl
   omega
  have sizes : ∀ x ∈ L, x.size ≤ 1000 := fun x hx => by
   rw [← hL, List.mem_map] at hx;obtain ⟨y, hy, rfl⟩ := hx;have := words_sizes 32 _ _ y hy;have e : a0.data.toList.length = a0.size := rfl;rw [T_size];simp only [List.length_nil] at this
   omega
  have at_ : ∀ f st g, Good f st g → a0 = TX f st g → L = (D f :: WL g [102, 114, 101, 101] st).map T := fun f st g hg q => by
   rw [← hL, q, TX_tail, T_data, words_hit _ _ _ (D_no 32 (by decide) f)];have gen : words 32 [] ([102, 114, 101, 101] ++ tail g st) = words 32 [102, 114, 101, 101] (tail g st) := rfl;rw [gen, words_tail]
   rfl
  have lenAt : ∀ f st g, Good f st g → a0 = TX f st g → L.length = 3 * st.length + 4 := fun f st g hg q => by
   rw [at_ f st g hg q, List.length_map, List.length_cons, WL_len]
  have j0t : ∀ k : Nat, True := fun _ => trivial
  by_cases c7 : (L.length : Int) < 7
  ·exact ⟨_, Ev.neg c (Ev.bind w (Ev.pos c7 (Ev.step (fun k => spec_ParseCharge.j0.eq_2 ..) (Ev.pos rfl (Ev.now _))))), no, fun f st g hg q => by have := lenAt f st g hg q; have := hg.2.1.1; omega⟩
  ·by_cases c3 : ((L.length : Int) % 3 != 1) = true
   ·exact ⟨_, Ev.neg c (Ev.bind w (Ev.neg c7 (Ev.step (fun k => spec_ParseCharge.j0.eq_2 ..) (Ev.pos c3 (Ev.now _))))), no, fun f st g hg q => by
     have := lenAt f st g hg q;rw [this, bne_iff_ne] at c3
     exact absurd (by omega) c3⟩
   ·have wn : wrap64 ((L.length : Int) - 1) = ((L.length - 1 : Nat) : Int) := by rw [w64 (by omega) (by omega)]; omega
    obtain ⟨p, p1, p2⟩ := readAll (rdOf ByteArray.empty L 0);obtain ⟨q, q1, q2⟩ := readAll (rdOf ByteArray.empty L (wrap64 ((L.length : Int) - 1)))
    have base : ∀ r, Ev (fun k => if p.2 = true then spec_ParseCharge.j1 k a0 L L.length (!q.2) p.1 q.1 else spec_ParseCharge.j1 k a0 L L.length true p.1 q.1) r →
      Ev (fun k => if (a0.size : Int) > 200 then some (0, [], 0, false) else ((spec_l1Split.f k a0 32).bind fun t132 => (if (t132.length : Int) < 7 then (spec_ParseCharge.j0 k a0 t132 (t132.length : Int) true) else (spec_ParseCharge.j0 k a0 t132 (t132.length : Int) (((t132.length : Int) % 3) != 1))))) r := fun r hr =>
     Ev.neg c (Ev.bind w (Ev.neg c7 (Ev.step (fun k => spec_ParseCharge.j0.eq_2 ..) (Ev.neg c3 (Ev.pos (by omega) (Ev.bind p1 (Ev.pos (by rw [wn]; omega) (Ev.pos (by rw [wn]; omega) (Ev.bind q1 hr)))))))))
    have nums : ∀ f st g, Good f st g → a0 = TX f st g → p = (f, true) ∧ q = (g, true) := fun f st g hg e => by
     obtain ⟨r, hr⟩ := WL_last g st [102, 114, 101, 101];have eL := at_ f st g hg e
     have h0 : rdOf ByteArray.empty L 0 = T (D f) := by
      rw [eL]
      rfl
     have hz : rdOf ByteArray.empty L (wrap64 ((L.length : Int) - 1)) = T (D g) := by
      rw [wn, rdOf_at _ (by omega)]
      have : L[L.length - 1]? = some (T (D g)) := by
       rw [eL, hr, ← List.cons_append, List.map_append, List.length_append, List.length_map, List.getElem?_append_right (by simp)]
       simp
      rw [List.getElem?_eq_getElem (by omega)] at this
      exact Option.some.inj this
     have f0 := hg.1.1;have f1 := hg.1.2;have g0 := hg.2.2.1.1;have g1 := hg.2.2.1.2;refine ⟨?_, ?_⟩
     ·rw [p2 f.toNat (by omega) h0, Int.toNat_of_nonneg f0]
     ·rw [q2 g.toNat (by omega) hz, Int.toNat_of_nonneg (by omega)]
    have oneL : rdOf ByteArray.empty L 0 = rdOf ByteArray.empty L 0 := rfl
    by_cases cp : p.2 = true ∧ q.2 = true
    ·obtain ⟨r, r1, r2⟩ := specLoop a0 L (by omega) sizes p.1 q.1 400 2 (by omega) (by omega) [] (Nat.zero_le _)
     have r1' : Ev (fun k => if p.2 = true then spec_ParseCharge.j1 k a0 L L.length (!q.2) p.1 q.1 else spec_ParseCharge.j1 k a0 L L.length true p.1 q.1) r :=
      Ev.pos cp.1 (Ev.step (fun k => spec_ParseCharge.j1.eq_2 ..) (Ev.neg (by rw [cp.2]; decide) r1))
     refine ⟨r, base r r1', r2, fun f st g hg e => ?_⟩;obtain ⟨hp, hq⟩ := nums f st g hg e;rw [hp, hq] at r1;have hst := specSteps f g st hg L (by omega) st [D f] [102, 114, 101, 101] [] 2 (at_ f st g hg e) rfl (good_mem hg) (Nat.zero_le _) rfl;rw [← e] at hst
     exact Ev.funct r1 hst
    ·refine ⟨(0, [], 0, false), base _ ?_, no, fun f st g hg e => ?_⟩
     ·by_cases c1 : p.2 = true
      ·exact Ev.pos c1 (Ev.step (fun k => spec_ParseCharge.j1.eq_2 ..) (Ev.pos (by cases h : q.2 with | false => rfl | true => exact absurd ⟨c1, h⟩ cp) (Ev.now _)))
      ·exact Ev.neg c1 (Ev.step (fun k => spec_ParseCharge.j1.eq_2 ..) (Ev.pos rfl (Ev.now _)))
     ·obtain ⟨hp, hq⟩ := nums f st g hg e;rw [hp, hq] at cp
      exact absurd ⟨rfl, rfl⟩ cp
theorem implText (f : Int) (st : List S45) (hl : st.length ≤ 1048577) (g : Int) (a0 : ByteArray) : ∃ r, Told a0 r ∧ (Good f st g → a0 = TX f st g → r = (f, st, g, true)) ∧
  Ev (fun k => (impl_IsValidCharge.f k f st g).bind fun t => if t = true then ((impl_chargeText.f k f st g).bind fun u => if u.toList = a0.toList then some (f, st, g, true) else some (0, [], 0, false)) else some (0, [], 0, false)) r := by
 have no : Told a0 (0, [], 0, false) := ⟨Nat.zero_le _, Or.inl rfl⟩;obtain ⟨b, _, b2, b3⟩ := good f st hl g
 by_cases cb : b = true
 ·have hg := b3.1 cb;have t1 := (chargeTextsAt f st g hg).2
  by_cases e : (TX f st g).toList = a0.toList
  ·exact ⟨(f, st, g, true), ⟨hl, Or.inr ⟨hg, rfl, (str_eq.1 e).symm⟩⟩, fun _ _ => rfl, Ev.bind b2 (Ev.pos cb (Ev.bind t1 (Ev.pos e (Ev.now _))))⟩
  ·exact ⟨_, no, fun _ q => absurd (by rw [q]) e, Ev.bind b2 (Ev.pos cb (Ev.bind t1 (Ev.neg e (Ev.now _))))⟩
 ·exact ⟨_, no, fun hg _ => absurd (b3.2 hg) cb, Ev.bind b2 (Ev.neg cb (Ev.now _))⟩
theorem cut_sizes (s : ByteArray) (h : s.size ≤ 1048576) : ∃ p : ByteArray × ByteArray × Bool, strings_Cut.f s (⟨#[32, 120, 32]⟩ : ByteArray) = some p ∧ p.1.size ≤ 1048576 ∧ p.2.1.size ≤ 1048576 ∧ ∀ a b : List UInt8, (32 : UInt8) ∉ a → s = T (a ++ ([32, 120, 32] ++ b)) → p = (T a, T b, true) := by
 refine ⟨_, by unfold strings_Cut.f; rw [if_pos (by omega)], ?_, ?_, fun a b ha e => ?_⟩
 ·unfold Lib.cut
  split
  ·show (List.take _ _).length ≤ _
   rw [List.length_take];have : s.data.toList.length = s.size := rfl
   omega
  ·exact h
 ·unfold Lib.cut
  split
  ·show (List.drop _ _).length ≤ _
   rw [List.length_drop];have : s.data.toList.length = s.size := rfl
   omega
  ·exact Nat.zero_le _
 ·have : Lib.cut s.data.toList [32, 120, 32] = (a, b, true) := by
   rw [e, T_data]
   exact cut_at 32 [120, 32] a b ha
  show (T (Lib.cut s.data.toList [32, 120, 32]).1, T (Lib.cut s.data.toList [32, 120, 32]).2.1, (Lib.cut s.data.toList [32, 120, 32]).2.2) = _
  rw [this]
theorem implLoop (a0 : ByteArray) (P4 Y : List ByteArray) (hY : Y.length ≤ 1048577) (hz : ∀ x ∈ Y, x.size ≤ 1048576) (f g : Int) : ∀ d i : Nat, i + d = Y.length → ∀ done : List S45, done.length = i →
  ∃ r, Ev (fun k => impl_ParseCharge.l0 k a0 P4 Y Y.length i f done g) r ∧ Told a0 r ∧ ∀ rest : List S45, (∀ x ∈ rest, stepOk x) → Y.drop i = (rest.map sl).map T → Good f (done ++ rest) g → a0 = TX f (done ++ rest) g → r = (f, done ++ rest, g, true) := by
 intro d
 induction d with
 | zero =>
  intro i hi done hd;obtain ⟨r, r1, r2, r3⟩ := implText f done (by omega) g a0;refine ⟨r, Ev.step (fun k => impl_ParseCharge.l0.eq_2 ..) (Ev.neg (by omega) r3), r1, fun rest _ hr hg e => ?_⟩
  have : rest = [] := by
   have := congrArg List.length hr;rw [List.length_drop, List.length_map, List.length_map] at this
   exact List.eq_nil_of_length_eq_zero (by omega)
  subst this;rw [List.append_nil] at hg e ⊢
  exact r2 hg e
 | succ d ih =>
  intro i hi done hd
  have hlt : i < Y.length := by omega
  have hx := rdOf_at (L := Y) i hlt;have hs := hz _ (List.getElem_mem hlt);obtain ⟨p, p1, p2, p3, p4⟩ := cut_sizes Y[i] hs;obtain ⟨a, a1, a2⟩ := parseInt p.1 p2;obtain ⟨b, b1, b2⟩ := parseInt p.2.1 p3
  have w1 : wrap64 ((i : Int) + 1) = ((i + 1 : Nat) : Int) := by rw [w64 (by omega) (by omega)]; rfl
  obtain ⟨r, r1, r2, r3⟩ := ih (i + 1) (by omega) (done ++ [(⟨a.1, b.1⟩ : S45)]) (by rw [List.length_append, List.length_singleton]; omega);rw [← w1] at r1;rw [← hx] at p1;refine ⟨r, Ev.step (fun k => impl_ParseCharge.l0.eq_2 ..) (Ev.pos (by omega) (Ev.pos (by omega) (Ev.pos (by omega) (Ev.const p1 (Ev.const a1 (Ev.const b1 (Ev.pos (by omega) r1))))))), r2, fun rest ok hr hg e => ?_⟩
  cases rest with
  | nil =>
   have := congrArg List.length hr;rw [List.length_drop] at this
   simp at this
   omega
  | cons x rest =>
   have hx0 := ok x List.mem_cons_self;rw [List.drop_eq_getElem_cons hlt, List.map_cons, List.map_cons] at hr;obtain ⟨h1, h2⟩ := List.cons.inj hr;have hp := p4 (D x.f0) (D x.f1) (D_no 32 (by decide) _) h1;rw [hp] at a2 b2;have ea := a2 x.f0 (by have := hx0.1; omega) (by have := hx0.1; omega) rfl;have eb := b2 x.f1 hx0.2.1 (by have := hx0.2; omega) rfl
   have ex : (⟨a.1, b.1⟩ : S45) = x := by rw [ea, eb]
   rw [ex] at r3;have := r3 rest (fun y hy => ok y (List.mem_cons_of_mem _ hy)) h2 (by rw [List.append_assoc]; exact hg) (by rw [List.append_assoc]; exact e);rw [List.append_assoc] at this
   exact this
theorem pl_split (g : Int) (st : List S45) : pl g st = st.map sl ++ [[108, 97, 114, 103, 101, 32] ++ D g] := by
 induction st with
 | nil => rfl
 | cons x st ih =>
  unfold pl
  rw [ih]
  rfl
theorem pl_no (f g : Int) (st : List S45) : ∀ x ∈ (D f ++ [32, 102, 114, 101, 101]) :: pl g st, (44 : UInt8) ∉ x := by
 intro x hx
 have hD := fun y => D_no 44 (by decide) y
 rw [List.mem_cons, pl_split, List.mem_append, List.mem_map, List.mem_singleton] at hx
 rcases hx with rfl | ⟨y, _, rfl⟩ | rfl
 ·rw [List.mem_append, not_or]
  exact ⟨hD f, by decide⟩
 ·unfold sl
  rw [List.mem_append, List.mem_append, not_or, not_or]
  exact ⟨hD _, by decide, hD _⟩
 ·rw [List.mem_append, not_or]
  exact ⟨by decide, hD g⟩
theorem implParse (a0 : ByteArray) (hs : a0.size ≤ 1048576) : ∃ r, Ev (fun k => impl_ParseCharge.f k a0) r ∧ Told a0 r ∧ ∀ f st g, Good f st g → a0 = TX f st g → r = (f, st, g, true) := by
 have no : Told a0 (0, [], 0, false) := ⟨Nat.zero_le _, Or.inl rfl⟩;obtain ⟨L, l1, l2, l3, l4⟩ := splits a0 hs
 have at_ : ∀ f st g, Good f st g → a0 = TX f st g → L = ((D f ++ [32, 102, 114, 101, 101]) :: pl g st).map T := fun f st g _ q => l4 _ _ (pl_no f g st) (q.trans (TX_join f st g))
 unfold impl_ParseCharge.f
 by_cases c3 : (L.length : Int) < 3
 ·refine ⟨_, Ev.const l1 (Ev.pos c3 (Ev.now _)), no, fun f st g hg q => ?_⟩;have := congrArg List.length (at_ f st g hg q);rw [List.length_map, List.length_cons, pl_split, List.length_append, List.length_map] at this;have h1 := hg.2.1.1;simp only [List.length_cons, List.length_nil] at this
  omega
 ·have wn : wrap64 ((L.length : Int) - 1) = ((L.length - 1 : Nat) : Int) := by rw [w64 (by omega) (by omega)]; omega
  have x0 := rdOf_at (L := L) 0 (by omega);have xn := rdOf_at (L := L) (L.length - 1) (by omega);obtain ⟨s, s1, s2, s3⟩ := trimSuffix (rdOf ByteArray.empty L 0) (⟨#[32, 102, 114, 101, 101]⟩ : ByteArray) (by rw [show (0 : Int) = ((0 : Nat) : Int) from rfl, x0]; exact l3 _ (List.getElem_mem _)) (by decide);have sz : s.size ≤ 1048576 := Nat.le_trans s2 (by rw [show (0 : Int) = ((0 : Nat) : Int) from rfl, x0]; exact l3 _ (List.getElem_mem _));obtain ⟨p, p1, p2⟩ := parseInt s sz;obtain ⟨t, t1, t2, t3⟩ := trimPrefix (rdOf ByteArray.empty L (wrap64 ((L.length : Int) - 1))) (⟨#[108, 97, 114, 103, 101, 32]⟩ : ByteArray) (by rw [wn, xn]; exact l3 _ (List.getElem_mem _)) (by decide);have tz : t.size ≤ 1048576 := Nat.le_trans t2 (by rw [wn, xn]; exact l3 _ (List.getElem_mem _));obtain ⟨q, q1, q2⟩ := parseInt t tz;generalize hYe : ((L.take ((wrap64 ((L.length : Int) - 1)) : Int).toNat).drop 1 : List ByteArray) = Y
  have hYl : Y.length ≤ 1048577 := by
   rw [← hYe, List.length_drop, List.length_take]
   omega
  have hYz : ∀ x ∈ Y, x.size ≤ 1048576 := fun x hx => by
   rw [← hYe] at hx
   exact l3 x (List.mem_of_mem_take (List.mem_of_mem_drop hx))
  obtain ⟨r, r1, r2, r3⟩ := implLoop a0 L Y hYl hYz p.1 q.1 Y.length 0 (by omega) [] rfl;refine ⟨r, Ev.const l1 (Ev.neg c3 (Ev.pos (by omega) (Ev.const s1 (Ev.const p1 (Ev.pos (by rw [wn]; omega) (Ev.pos (by rw [wn]; omega) (Ev.const t1 (Ev.const q1 (Ev.pos (by rw [wn]; omega) (Ev.pos (by rw [wn]; omega) ?_)))))))))), r2, fun f st g hg e => ?_⟩
  ·rw [hYe]
   exact Ev.some r1
  ·have eL := at_ f st g hg e
   have ll : L.length = st.length + 2 := by
    have := congrArg List.length eL;rw [List.length_map, List.length_cons, pl_split, List.length_append, List.length_map] at this;simp only [List.length_cons, List.length_nil] at this
    omega
   have f0 := hg.1.1;have f1 := hg.1.2;have g0 := hg.2.2.1.1;have g1 := hg.2.2.1.2
   have es : s = NI f := s3 (NI f) (by
    rw [show (0 : Int) = ((0 : Nat) : Int) from rfl, x0]
    have : L[0]? = some (T (D f ++ [32, 102, 114, 101, 101])) := by rw [eL]; rfl
    rw [List.getElem?_eq_getElem (by omega)] at this;rw [Option.some.inj this]
    exact (T_cat _ _).symm)
   have et : t = NI g := t3 (NI g) (by
    rw [wn, xn]
    have : L[L.length - 1]? = some (T ([108, 97, 114, 103, 101, 32] ++ D g)) := by
     rw [ll, eL, pl_split, show st.length + 2 - 1 = st.length + 1 from rfl]
     simp
    rw [List.getElem?_eq_getElem (by omega)] at this;rw [Option.some.inj this]
    exact (T_cat _ _).symm)
   have ep := p2 f f0 (by omega) es;have eq := q2 g (by omega) (by omega) et
   have hY : Y.drop 0 = (st.map sl).map T := by
    rw [List.drop_zero, ← hYe, wn, Int.toNat_natCast, ll, eL, pl_split];rw [show st.length + 2 - 1 = st.length + 1 from rfl, List.map_cons, List.take_succ_cons, List.drop_succ_cons, List.drop_zero, List.map_append]
    exact List.take_left' (by simp)
   rw [ep, eq] at r3
   exact r3 st (good_mem hg) hY hg e
theorem parseBoth (a0 : ByteArray) (hs : a0.size ≤ 1048576) : ∃ r, Ev (fun k => spec_ParseCharge.f k a0) r ∧ Ev (fun k => impl_ParseCharge.f k a0) r ∧ Told a0 r ∧ ∀ f st g, Good f st g → a0 = TX f st g → r = (f, st, g, true) := by
 obtain ⟨r, r1, r2, r3⟩ := specParse a0 hs;obtain ⟨q, q1, q2, q3⟩ := implParse a0 hs
 have e : q = r := by
  rcases r2.2 with h | ⟨hg, ht, hx⟩
  ·rcases q2.2 with h' | ⟨hg, ht, hx⟩
   ·rw [h, h']
   ·have := r3 _ _ _ hg hx;rw [this] at h;have := congrArg (fun z => z.2.2.2) h;cases this
  ·have := q3 _ _ _ hg hx;rw [this];obtain ⟨f, st, g, b⟩ := r;have hb : b = true := ht;rw [hb]
 rw [e] at q1
 exact ⟨r, r1, q1, r2, r3⟩
def stepOff (st : List S45) : Nat → Nat → Int → Nat
 | 0, _, _ => 0
 | d + 1, i, left => if left ≤ (rd_T45 st i).f0 then 0 else stepOff st d (i + 1) (left - (rd_T45 st i).f0) + 1
theorem stepOff_le (st : List S45) : ∀ d i : Nat, ∀ left : Int, stepOff st d i left ≤ d := by
 intro d
 induction d with
 | zero => intro i left; exact Nat.le_refl _
 | succ d ih =>
  intro i left;rw [show stepOff st (d + 1) i left = if left ≤ (rd_T45 st i).f0 then 0 else stepOff st d (i + 1) (left - (rd_T45 st i).f0) + 1 from rfl];have := ih (i + 1) (left - (rd_T45 st i).f0)
  split <;> omega
def stepDay (f : Int) (st : List S45) (day : Int) : Int := if day ≤ f then -1 else (stepOff st (st.length - 1) 0 (day - f) : Int)
theorem stepDay_lt (f : Int) (st : List S45) (g : Int) (h : Good f st g) (day : Int) : -1 ≤ stepDay f st day ∧ stepDay f st day < st.length := by
 have := h.2.1;have := stepOff_le st (st.length - 1) 0 (day - f)
 unfold stepDay
 split <;> omega
theorem specStep (f : Int) (st : List S45) (g : Int) (h : Good f st g) (day : Int) (d1 : day ≤ 401) : Ev (fun k => spec_l22Step.f k f st g day) (stepDay f st day) := by
 obtain ⟨h0, h1, h2, h3⟩ := h
 have main : ∀ d i : Nat, i + 1 + d = st.length → ∀ last : Int, 0 ≤ last → last ≤ 30 + 100 * i → Ev (fun k => spec_l22Step.l0 k day last i f st g) ((i + stepOff st d i (day - last) : Nat) : Int) := by
  intro d
  induction d with
  | zero =>
   intro i hi last l0 l1
   have w1 : wrap64 ((i : Int) + 1) = ((i + 1 : Nat) : Int) := by rw [w64 (by omega) (by omega)]; rfl
   refine Ev.step (fun k => spec_l22Step.l0.eq_2 ..) (Ev.neg (by rw [w1]; omega) (Ev.eq (Ev.now _) ?_));rw [w64 (by omega) (by omega), show stepOff st 0 i (day - last) = 0 from rfl]
   omega
  | succ d ih =>
   intro i hi last l0 l1;obtain ⟨⟨o1, o2⟩, _⟩ := h3 i (by omega)
   have w1 : wrap64 ((i : Int) + 1) = ((i + 1 : Nat) : Int) := by rw [w64 (by omega) (by omega)]; rfl
   have w2 : wrap64 (last + (rd_T45 st i).f0) = last + (rd_T45 st i).f0 := w64 (by omega) (by omega);rw [show stepOff st (d + 1) i (day - last) = if day - last ≤ (rd_T45 st i).f0 then 0 else stepOff st d (i + 1) (day - last - (rd_T45 st i).f0) + 1 from rfl];refine Ev.step (fun k => spec_l22Step.l0.eq_2 ..) (Ev.pos (by rw [w1]; omega) (Ev.pos (by omega) (Ev.pos (by omega) ?_)))
   by_cases c : day ≤ last + (rd_T45 st i).f0
   ·rw [if_pos (by omega)]
    exact Ev.pos (by rw [w2]; exact c) (Ev.now _)
   ·rw [if_neg (by omega)];have := ih (i + 1) (by omega) (last + (rd_T45 st i).f0) (by omega) (by omega);rw [← w1, ← w2] at this;refine Ev.neg (by rw [w2]; exact c) (Ev.eq this ?_);rw [w2, show day - (last + (rd_T45 st i).f0) = day - last - (rd_T45 st i).f0 by omega]
    omega
 unfold spec_l22Step.f stepDay
 by_cases c : day ≤ f
 ·rw [if_pos c]
  exact Ev.pos c (Ev.now _)
 ·rw [if_neg c]
  exact Ev.neg c (Ev.eq (main (st.length - 1) 0 (by omega) f h0.1 (by omega)) (by simp))
def rateDay (f : Int) (st : List S45) (day : Int) : Int := if stepDay f st day < 0 then 0 else (rd_T45 st (stepDay f st day)).f1
theorem specRate (f : Int) (st : List S45) (g : Int) (h : Good f st g) (day : Int) (d1 : day ≤ 401) : Ev (fun k => spec_l22Rate.f k f st g day) (rateDay f st day) := by
 have lt := stepDay_lt f st g h day
 unfold spec_l22Rate.f
 refine Ev.bind (specStep f st g h day d1) ?_
 by_cases c : stepDay f st day < 0
 ·exact Ev.pos c (Ev.eq (Ev.now _) (show (0 : Int) = rateDay f st day from (if_pos c).symm))
 ·exact Ev.neg c (Ev.pos (by omega) (Ev.pos (by omega) (Ev.eq (Ev.now _) (show (rd_T45 st (stepDay f st day)).f1 = rateDay f st day from (if_neg c).symm))))
def payAt (st : List S45) : Nat → Nat → Int → Int
 | 0, i, left => left * (rd_T45 st i).f1
 | d + 1, i, left => mn left (rd_T45 st i).f0 * (rd_T45 st i).f1 + payAt st d (i + 1) (left - mn left (rd_T45 st i).f0)
theorem payAt_zero (st : List S45) (h3 : ∀ j : Nat, j < st.length → stepOk (rd_T45 st j)) : ∀ d i : Nat, i + 1 + d = st.length → payAt st d i 0 = 0 := by
 intro d
 induction d with
 | zero => intro i _; exact Int.zero_mul _
 | succ d ih =>
  intro i hi;have := (h3 i (by omega)).1;have e : mn 0 (rd_T45 st i).f0 = 0 := if_neg (by omega);rw [show payAt st (d + 1) i 0 = mn 0 (rd_T45 st i).f0 * (rd_T45 st i).f1 + payAt st d (i + 1) (0 - mn 0 (rd_T45 st i).f0) from rfl, e, Int.zero_mul, Int.sub_self, ih (i + 1) (by omega)]
  rfl
theorem payAt_bounds (st : List S45) (h3 : ∀ j : Nat, j < st.length → stepOk (rd_T45 st j)) : ∀ d i : Nat, i + 1 + d = st.length → ∀ left : Int, 0 ≤ left → 0 ≤ payAt st d i left ∧ payAt st d i left ≤ left * 10000 := by
 intro d
 induction d with
 | zero =>
  intro i hi left l0;obtain ⟨_, o1, o2⟩ := h3 i (by omega)
  exact ⟨Int.mul_nonneg l0 o1, Int.mul_le_mul_of_nonneg_left o2 l0⟩
 | succ d ih =>
  intro i hi left l0;obtain ⟨⟨p1, p2⟩, o1, o2⟩ := h3 i (by omega)
  have m : 0 ≤ mn left (rd_T45 st i).f0 ∧ mn left (rd_T45 st i).f0 ≤ left := by unfold mn; split <;> omega
  obtain ⟨a, b⟩ := ih (i + 1) (by omega) (left - mn left (rd_T45 st i).f0) (by omega);have c := Int.mul_nonneg m.1 o1;have e := Int.mul_le_mul_of_nonneg_left o2 m.1;rw [show payAt st (d + 1) i left = mn left (rd_T45 st i).f0 * (rd_T45 st i).f1 + payAt st d (i + 1) (left - mn left (rd_T45 st i).f0) from rfl];generalize mn left (rd_T45 st i).f0 * (rd_T45 st i).f1 = u at *;generalize mn left (rd_T45 st i).f0 = v at *;generalize payAt st d (i + 1) (left - v) = w at *
  omega
theorem payAt_succ (st : List S45) (h3 : ∀ j : Nat, j < st.length → stepOk (rd_T45 st j)) : ∀ d i : Nat, i + 1 + d = st.length → ∀ left : Int, 0 ≤ left →
  payAt st d i (left + 1) = payAt st d i left + (rd_T45 st ((i + stepOff st d i (left + 1) : Nat) : Int)).f1 := by
 intro d
 induction d with
 | zero =>
  intro i hi left l0
  show (left + 1) * _ = left * _ + _
  rw [Int.add_mul, Int.one_mul]
  rfl
 | succ d ih =>
  intro i hi left l0;obtain ⟨⟨p1, p2⟩, o1, o2⟩ := h3 i (by omega)
  have E : ∀ x : Int, payAt st (d + 1) i x = mn x (rd_T45 st i).f0 * (rd_T45 st i).f1 + payAt st d (i + 1) (x - mn x (rd_T45 st i).f0) := fun _ => rfl
  have O : stepOff st (d + 1) i (left + 1) = if left + 1 ≤ (rd_T45 st i).f0 then 0 else stepOff st d (i + 1) (left + 1 - (rd_T45 st i).f0) + 1 := rfl;rw [E, E, O]
  by_cases c : left + 1 ≤ (rd_T45 st i).f0
  ·have e1 : mn (left + 1) (rd_T45 st i).f0 = left + 1 := if_neg (by omega);have e2 : mn left (rd_T45 st i).f0 = left := if_neg (by omega);rw [e1, e2, if_pos c, Int.sub_self, Int.sub_self, payAt_zero st h3 d (i + 1) (by omega), Int.add_mul, Int.one_mul, Nat.add_zero]
   omega
  ·have e1 : mn (left + 1) (rd_T45 st i).f0 = (rd_T45 st i).f0 := if_pos (by omega)
   have e2 : mn left (rd_T45 st i).f0 = (rd_T45 st i).f0 := by unfold mn; split <;> omega
   have h := ih (i + 1) (by omega) (left - (rd_T45 st i).f0) (by omega)
   have e3 : left + 1 - (rd_T45 st i).f0 = left - (rd_T45 st i).f0 + 1 := by omega
   rw [e1, e2, if_neg c, e3, h, show i + (stepOff st d (i + 1) (left - (rd_T45 st i).f0 + 1) + 1) = i + 1 + stepOff st d (i + 1) (left - (rd_T45 st i).f0 + 1) by omega]
   omega
def payDay (f : Int) (st : List S45) (days : Int) : Int := payAt st (st.length - 1) 0 (days - mn days f)
def paySize (f : Int) (st : List S45) (g size days : Int) : Int := if size = 2 then Int.tdiv (payDay f st days * g + 99) 100 else payDay f st days
theorem payDay_bounds (f : Int) (st : List S45) (g : Int) (h : Good f st g) (days : Int) (d0 : 0 ≤ days) (d1 : days ≤ 400) : 0 ≤ payDay f st days ∧ payDay f st days ≤ 4000000 := by
 obtain ⟨h0, h1, h2, h3⟩ := h
 have m : 0 ≤ mn days f ∧ mn days f ≤ days := by unfold mn; split <;> omega
 obtain ⟨a, b⟩ := payAt_bounds st h3 (st.length - 1) 0 (by omega) (days - mn days f) (by omega)
 unfold payDay
 omega
theorem payDay_zero (f : Int) (st : List S45) (g : Int) (h : Good f st g) : payDay f st 0 = 0 := by
 obtain ⟨h0, h1, h2, h3⟩ := h;have m : mn 0 f = 0 := if_neg (by omega)
 unfold payDay
 rw [m, Int.sub_self, payAt_zero st h3 _ 0 (by omega)]
theorem payDay_succ (f : Int) (st : List S45) (g : Int) (h : Good f st g) (days : Int) (d0 : 0 ≤ days) : payDay f st (days + 1) = payDay f st days + rateDay f st (days + 1) := by
 obtain ⟨h0, h1, h2, h3⟩ := h
 unfold payDay rateDay stepDay
 by_cases c : days + 1 ≤ f
 ·have e1 : mn (days + 1) f = days + 1 := if_neg (by omega);have e2 : mn days f = days := if_neg (by omega);rw [if_pos c, if_pos (by omega), e1, e2, Int.sub_self, Int.sub_self, payAt_zero st h3 _ 0 (by omega)]
  rfl
 ·have e1 : mn (days + 1) f = f := if_pos (by omega)
  have e2 : mn days f = f := by unfold mn; split <;> omega
  have e3 : days + 1 - f = days - f + 1 := by omega
  rw [if_neg c, if_neg (by omega), e1, e2, e3, payAt_succ st h3 (st.length - 1) 0 (by omega) (days - f) (by omega), Nat.zero_add]
theorem sized (p g : Int) (p0 : 0 ≤ p) (p1 : p ≤ 4000000) (g0 : 100 ≤ g) (g1 : g ≤ 300) : wrap64 (p * g) = p * g ∧ wrap64 (p * g + 99) = p * g + 99 ∧ wrap64 (Int.tdiv (p * g + 99) 100) = Int.tdiv (p * g + 99) 100 ∧ wrap64 (p * g + 100) = p * g + 100 := by
 have a := Int.mul_nonneg p0 (by omega : 0 ≤ g);have b : p * g ≤ 4000000 * 300 := Int.mul_le_mul p1 g1 (by omega) (by omega);generalize p * g = u at *;rw [Int.tdiv_eq_ediv_of_nonneg (by omega)]
 exact ⟨w64 (by omega) (by omega), w64 (by omega) (by omega), w64 (by omega) (by omega), w64 (by omega) (by omega)⟩
theorem specPay (f : Int) (st : List S45) (g : Int) (h : Good f st g) (size : Int) (days : Nat) (d1 : days ≤ 400) : Ev (fun k => spec_l22Pay.f k f st g size days) (paySize f st g size days) := by
 have main : ∀ d i : Nat, i + d = days → Ev (fun k => spec_l22Pay.l0 k size days (payDay f st i) ((i + 1 : Nat) : Int) f st g) (paySize f st g size days) := by
  intro d
  induction d with
  | zero =>
   intro i hi
   obtain rfl : i = days := by omega
   obtain ⟨p0, p1⟩ := payDay_bounds f st g h i (by omega) (by omega);obtain ⟨a, b, c, _⟩ := sized (payDay f st i) g p0 p1 h.2.2.1.1 h.2.2.1.2;refine Ev.step (fun k => spec_l22Pay.l0.eq_2 ..) (Ev.neg (by omega) ?_)
   by_cases q : size = 2
   ·refine Ev.pos q (Ev.eq (Ev.now _) ?_);rw [show paySize f st g size i = Int.tdiv (payDay f st i * g + 99) 100 from if_pos q, a, b, c]
   ·exact Ev.neg q (Ev.eq (Ev.now _) (show payDay f st i = paySize f st g size i from (if_neg q).symm))
  | succ d ih =>
   intro i hi
   have w1 : wrap64 (((i + 1 : Nat) : Int) + 1) = ((i + 1 + 1 : Nat) : Int) := by rw [w64 (by omega) (by omega)]; rfl
   have s := payDay_succ f st g h i (by omega);obtain ⟨p0, p1⟩ := payDay_bounds f st g h ((i + 1 : Nat) : Int) (by omega) (by omega);have s' : payDay f st ((i + 1 : Nat) : Int) = payDay f st i + rateDay f st ((i + 1 : Nat) : Int) := s
   have w2 : wrap64 (payDay f st i + rateDay f st ((i + 1 : Nat) : Int)) = payDay f st ((i + 1 : Nat) : Int) := by rw [← s']; exact w64 (by omega) (by omega)
   have r := ih (i + 1) (by omega);rw [← w1, ← w2] at r
   exact Ev.step (fun k => spec_l22Pay.l0.eq_2 ..) (Ev.pos (by omega) (Ev.bind (specRate f st g h _ (by omega)) r))
 have z := main days 0 (by omega);rw [show ((0 : Nat) : Int) = 0 from rfl, payDay_zero f st g h] at z
 exact z
def splitAt' (st : List S45) : Nat → Nat → Int → List Int
 | 0, _, left => [left]
 | d + 1, i, left => mn left (rd_T45 st i).f0 :: splitAt' st d (i + 1) (left - mn left (rd_T45 st i).f0)
theorem splitAt_length (st : List S45) : ∀ d i : Nat, ∀ left : Int, (splitAt' st d i left).length = d + 1 := by
 intro d
 induction d with
 | zero => intro i left; rfl
 | succ d ih => intro i left; exact congrArg (· + 1) (ih (i + 1) _)
def splitDay (f : Int) (st : List S45) (days : Int) : List Int := mn days f :: splitAt' st (st.length - 1) 0 (days - mn days f)
theorem implSplit (f : Int) (st : List S45) (g : Int) (h : Good f st g) (days : Int) (d0 : 0 ≤ days) (d1 : days ≤ 400) : Ev (fun k => impl_splitStay.f k f st g days) (splitDay f st days) := by
 obtain ⟨h0, h1, h2, h3⟩ := h
 have main : ∀ d i : Nat, i + 1 + d = st.length → ∀ left : Int, 0 ≤ left → left ≤ 400 → ∀ out : List Int, out.length ≤ i + 1 → Ev (fun k => impl_splitStay.l0 k out left st st.length i f st g) (out ++ splitAt' st d i left) := by
  intro d
  induction d with
  | zero =>
   intro i hi left l0 l1 out ho
   have w0 : wrap64 ((st.length : Int) - 1) = i := by rw [w64 (by omega) (by omega)]; omega
   have w1 : wrap64 ((i : Int) + 1) = ((i + 1 : Nat) : Int) := by rw [w64 (by omega) (by omega)]; rfl
   refine Ev.step (fun k => impl_splitStay.l0.eq_2 ..) (Ev.pos (by omega) (Ev.pos (by omega) (Ev.pos (by omega) (Ev.pos w0.symm (Ev.pos (by omega) ?_)))));rw [w1]
   exact Ev.step (fun k => impl_splitStay.l0.eq_2 ..) (Ev.neg (by omega) (Ev.now _))
  | succ d ih =>
   intro i hi left l0 l1 out ho;obtain ⟨⟨p1, p2⟩, _⟩ := h3 i (by omega)
   have m : 0 ≤ mn left (rd_T45 st i).f0 ∧ mn left (rd_T45 st i).f0 ≤ left := by unfold mn; split <;> omega
   obtain ⟨m0, m1⟩ := m;generalize hx : mn left (rd_T45 st i).f0 = x at m0 m1
   have li : (i : Int) < st.length := by omega
   have i0 : (0 : Int) ≤ i := by omega
   have ni : ¬ (i : Int) = (st.length : Int) - 1 := by omega
   have lo : out.length < 17592186044416 := by omega
   have lo2 : (out ++ [x]).length ≤ i + 1 + 1 := by rw [List.length_append, List.length_singleton]; omega
   have r := ih (i + 1) (by omega) (left - x) (by omega) (by omega) (out ++ [x]) lo2;have w0 : wrap64 ((st.length : Int) - 1) = (st.length : Int) - 1 := w64 (by omega) (by omega)
   have w1 : wrap64 ((i : Int) + 1) = ((i + 1 : Nat) : Int) := by rw [w64 (by omega) (by omega)]; rfl
   have w2 : wrap64 (left - x) = left - x := w64 (by omega) (by omega)
   have E : splitAt' st (d + 1) i left = x :: splitAt' st d (i + 1) (left - x) := by rw [← hx]; rfl
   refine Ev.step (fun k => impl_splitStay.l0.eq_2 ..) (Ev.pos li (Ev.pos i0 (Ev.pos li (Ev.neg (by rw [w0]; exact ni) (Ev.pos lo ?_)))));rw [hx, w1, w2];refine Ev.eq r ?_;rw [E, List.append_assoc]
   rfl
 have m : 0 ≤ mn days f ∧ mn days f ≤ days := by unfold mn; split <;> omega
 have w2 : wrap64 (days - mn days f) = days - mn days f := w64 (by omega) (by omega);have z := main (st.length - 1) 0 (by omega) (days - mn days f) (by omega) (by omega) [mn days f] (by simp);have hr : rd [mn days f] 0 = mn days f := rfl
 unfold impl_splitStay.f
 refine Ev.some (Ev.pos (by simp) ?_);rw [hr, w2]
 exact z
def Asked (f : Int) (st : List S45) (g size days : Int) : Prop := Good f st g ∧ (1 ≤ size ∧ size ≤ 2) ∧ (0 ≤ days ∧ days ≤ 400)
theorem asked (f : Int) (st : List S45) (hl : st.length ≤ 1048577) (g size days : Int) : ∃ b : Bool, Ev (fun k => spec_l22Asked.f k f st g size days) b ∧ Ev (fun k => impl_isStay.f k f st g size days) b ∧ (b = true ↔ Asked f st g size days) := by
 obtain ⟨b, h1, h2, h3⟩ := good f st hl g
 unfold spec_l22Asked.f impl_isStay.f
 by_cases c0 : b = true
 ·by_cases c1 : 1 ≤ size ∧ size ≤ 2
  ·refine ⟨decide (0 ≤ days ∧ days ≤ 400), Ev.bind h1 (Ev.pos c0 (Ev.const (l1In_eq _ _ _) (Ev.pos (decide_eq_true c1) (Ev.const (l1In_eq _ _ _) (Ev.now _))))), Ev.bind h2 (Ev.pos c0 (Ev.const (within_eq _ _ _) (Ev.pos (decide_eq_true c1) (Ev.const (within_eq _ _ _) (Ev.now _))))), ?_⟩
   exact ⟨fun h => ⟨h3.1 c0, c1, of_decide_eq_true h⟩, fun h => decide_eq_true h.2.2⟩
  ·exact ⟨false, Ev.bind h1 (Ev.pos c0 (Ev.const (l1In_eq _ _ _) (Ev.neg (fun h => c1 (of_decide_eq_true h)) (Ev.now _)))), Ev.bind h2 (Ev.pos c0 (Ev.const (within_eq _ _ _) (Ev.neg (fun h => c1 (of_decide_eq_true h)) (Ev.now _)))), ⟨fun h => (by cases h), fun h => absurd h.2.1 c1⟩⟩
 ·exact ⟨false, Ev.bind h1 (Ev.neg c0 (Ev.now _)), Ev.bind h2 (Ev.neg c0 (Ev.now _)), ⟨fun h => (by cases h), fun h => absurd (h3.2 h.1) c0⟩⟩
theorem implPay (f : Int) (st : List S45) (g : Int) (h : Good f st g) (size days : Int) (d0 : 0 ≤ days) (d1 : days ≤ 400) : Ev (fun k => impl_stayCharge.f k f st g size days) (paySize f st g size days) := by
 have sp := implSplit f st g h days d0 d1;obtain ⟨P0, P1⟩ := payDay_bounds f st g h days d0 d1;obtain ⟨h0, h1, h2, h3⟩ := h
 have fin : Ev (fun k => impl_stayCharge.l0 k size (payDay f st days) (splitAt' st (st.length - 1) 0 (days - mn days f)) st.length st.length f st g) (paySize f st g size days) := by
  obtain ⟨a, b, c, e⟩ := sized (payDay f st days) g P0 P1 h2.1 h2.2;refine Ev.step (fun k => impl_stayCharge.l0.eq_2 ..) (Ev.neg (by omega) ?_)
  unfold impl_ceiling.f
  by_cases q : size = 2
  ·refine Ev.pos q (Ev.bind (Ev.neg (by omega) (Ev.now _)) (Ev.eq (Ev.now _) ?_));rw [show paySize f st g size days = Int.tdiv (payDay f st days * g + 99) 100 from if_pos q, a, e, show payDay f st days * g + 100 - 1 = payDay f st days * g + 99 by omega, b, c]
  ·exact Ev.neg q (Ev.eq (Ev.now _) (show payDay f st days = paySize f st g size days from (if_neg q).symm))
 have m : 0 ≤ mn days f ∧ mn days f ≤ days := by unfold mn; split <;> omega
 have main : ∀ d i : Nat, i + 1 + d = st.length → ∀ left : Int, 0 ≤ left → ∀ (pre : List Int) (s : Int), pre.length = i → 0 ≤ s → pre ++ splitAt' st d i left = splitAt' st (st.length - 1) 0 (days - mn days f) → s + payAt st d i left = payDay f st days →
   Ev (fun k => impl_stayCharge.l0 k size s (pre ++ splitAt' st d i left) st.length i f st g) (paySize f st g size days) := by
  intro d
  induction d with
  | zero =>
   intro i hi left l0 pre s hp hs he hv;obtain ⟨_, o1, o2⟩ := h3 i (by omega)
   have li : (i : Int) < st.length := by omega
   have i0 : (0 : Int) ≤ i := by omega
   have ln : (pre ++ splitAt' st 0 i left).length = st.length := by rw [List.length_append, splitAt_length]; omega
   have ll : (i : Int) < (pre ++ splitAt' st 0 i left).length := by rw [ln]; exact li
   have e1 : rd (pre ++ splitAt' st 0 i left) i = left := by unfold rd; rw [Int.toNat_natCast, List.getD_eq_getElem?_getD, ← hp, List.getElem?_append_right (Nat.le_refl _), Nat.sub_self]; rfl
   have pv : payAt st 0 i left = left * (rd_T45 st i).f1 := rfl;have c := Int.mul_nonneg l0 o1;rw [pv] at hv
   have w2 : wrap64 (s + wrap64 (rd (pre ++ splitAt' st 0 i left) i * (rd_T45 st i).f1)) = payDay f st days := by
    rw [e1];generalize left * (rd_T45 st i).f1 = u at c hv ⊢;generalize payDay f st days = v at P0 P1 hv ⊢;rw [w64 (x := u) (by omega) (by omega), hv]
    exact w64 (by omega) (by omega)
   have q1 : i + 1 = st.length := by omega
   have w1 : wrap64 ((i : Int) + 1) = ((i + 1 : Nat) : Int) := by rw [w64 (by omega) (by omega)]; rfl
   refine Ev.step (fun k => impl_stayCharge.l0.eq_2 ..) (Ev.pos li (Ev.pos i0 (Ev.pos ll (Ev.pos li ?_))));rw [w1, w2, he, q1]
   exact fin
  | succ d ih =>
   intro i hi left l0 pre s hp hs he hv;obtain ⟨⟨p1, p2⟩, o1, o2⟩ := h3 i (by omega)
   have mm : 0 ≤ mn left (rd_T45 st i).f0 ∧ mn left (rd_T45 st i).f0 ≤ left := by unfold mn; split <;> omega
   have E : splitAt' st (d + 1) i left = mn left (rd_T45 st i).f0 :: splitAt' st d (i + 1) (left - mn left (rd_T45 st i).f0) := rfl;obtain ⟨m0, m1⟩ := mm;have pv : payAt st (d + 1) i left = mn left (rd_T45 st i).f0 * (rd_T45 st i).f1 + payAt st d (i + 1) (left - mn left (rd_T45 st i).f0) := rfl;rw [pv] at hv;rw [E] at he
   have li : (i : Int) < st.length := by omega
   have i0 : (0 : Int) ≤ i := by omega
   generalize hx : mn left (rd_T45 st i).f0 = x at m0 m1 hv he E
   have A : pre ++ x :: splitAt' st d (i + 1) (left - x) = (pre ++ [x]) ++ splitAt' st d (i + 1) (left - x) := by rw [List.append_assoc]; rfl
   have ln : (pre ++ x :: splitAt' st d (i + 1) (left - x)).length = st.length := by rw [List.length_append, List.length_cons, splitAt_length]; omega
   have ll : (i : Int) < (pre ++ x :: splitAt' st d (i + 1) (left - x)).length := by rw [ln]; exact li
   have e1 : rd (pre ++ x :: splitAt' st d (i + 1) (left - x)) i = x := by unfold rd; rw [Int.toNat_natCast, List.getD_eq_getElem?_getD, ← hp, List.getElem?_append_right (Nat.le_refl _), Nat.sub_self]; rfl
   have c := Int.mul_nonneg m0 o1;have b := (payAt_bounds st h3 d (i + 1) (by omega) (left - x) (by omega)).1
   have hq : (pre ++ [x]).length = i + 1 := by rw [List.length_append, List.length_singleton]; omega
   have r := ih (i + 1) (by omega) (left - x) (by omega) (pre ++ [x]) (s + x * (rd_T45 st i).f1) hq (by omega) (by rw [← A]; exact he) (by omega);rw [← A] at r
   have w2 : wrap64 (s + wrap64 (x * (rd_T45 st i).f1)) = s + x * (rd_T45 st i).f1 := by
    generalize x * (rd_T45 st i).f1 = u at c hv ⊢;generalize payAt st d (i + 1) (left - x) = v at b hv;generalize payDay f st days = z at P0 P1 hv;rw [w64 (x := u) (by omega) (by omega)]
    exact w64 (by omega) (by omega)
   have w1 : wrap64 ((i : Int) + 1) = ((i + 1 : Nat) : Int) := by rw [w64 (by omega) (by omega)]; rfl
   rw [E];refine Ev.step (fun k => impl_stayCharge.l0.eq_2 ..) (Ev.pos li (Ev.pos i0 (Ev.pos ll (Ev.pos li ?_))));rw [w1, e1, w2]
   exact r
 have z := main (st.length - 1) 0 (by omega) (days - mn days f) (by omega) [] 0 rfl (by omega) rfl (by rw [Int.zero_add]; rfl)
 unfold impl_stayCharge.f
 refine Ev.bind sp (Ev.pos ?_ (Ev.some ?_))
 ·unfold splitDay
  rw [List.length_cons, splitAt_length]
  omega
 ·have e : (splitDay f st days).drop 1 = splitAt' st (st.length - 1) 0 (days - mn days f) := rfl
  have ln : (splitAt' st (st.length - 1) 0 (days - mn days f)).length = st.length := by rw [splitAt_length]; omega
  rw [e, ln]
  exact z
theorem cheaperBoth (f : Int) (st : List S45) (hl : st.length ≤ 1048577) (g f' : Int) (st' : List S45) (hl' : st'.length ≤ 1048577) (g' size days : Int) :
  ∃ r : Int × Bool, Ev (fun k => spec_CheaperCharge.f k f st g f' st' g' size days) r ∧ Ev (fun k => impl_CheaperCharge.f k f st g f' st' g' size days) r := by
 obtain ⟨b, h1, h2, h3⟩ := asked f st hl g size days;obtain ⟨b', h1', h2', h3'⟩ := asked f' st' hl' g' size days
 unfold spec_CheaperCharge.f impl_CheaperCharge.f
 have js : Ev (fun k => spec_CheaperCharge.j0 k size days true f st g f' st' g') (0, false) := Ev.step (fun k => spec_CheaperCharge.j0.eq_2 ..) (Ev.pos rfl (Ev.now _));have ji : Ev (fun k => impl_CheaperCharge.j0 k size days true f st g f' st' g') (0, false) := Ev.step (fun k => impl_CheaperCharge.j0.eq_2 ..) (Ev.pos rfl (Ev.now _))
 by_cases c : b = true
 ·by_cases c' : b' = true
  ·obtain ⟨hg, _, d0, d1⟩ := h3.1 c;obtain ⟨hg', _, _, _⟩ := h3'.1 c';have sp := specPay f st g hg size days.toNat (by omega);have sp' := specPay f' st' g' hg' size days.toNat (by omega);rw [Int.toNat_of_nonneg d0] at sp sp';have im := implPay f st g hg size days d0 d1;have im' := implPay f' st' g' hg' size days d0 d1
   have nn : ¬ (!b') = true := by rw [c']; exact fun h => by cases h
   by_cases q : paySize f st g size days < paySize f' st' g' size days
   ·exact ⟨_, Ev.bind h1 (Ev.pos c (Ev.bind h1' (Ev.step (fun k => spec_CheaperCharge.j0.eq_2 ..) (Ev.neg nn (Ev.bind sp (Ev.bind sp' (Ev.pos q (Ev.now _)))))))), Ev.bind h2 (Ev.pos c (Ev.bind h2' (Ev.step (fun k => impl_CheaperCharge.j0.eq_2 ..) (Ev.neg nn (Ev.bind im (Ev.bind im' (Ev.pos q (Ev.now _))))))))⟩
   ·by_cases q' : paySize f' st' g' size days < paySize f st g size days
    ·exact ⟨_, Ev.bind h1 (Ev.pos c (Ev.bind h1' (Ev.step (fun k => spec_CheaperCharge.j0.eq_2 ..) (Ev.neg nn (Ev.bind sp (Ev.bind sp' (Ev.neg q (Ev.pos q' (Ev.now _))))))))), Ev.bind h2 (Ev.pos c (Ev.bind h2' (Ev.step (fun k => impl_CheaperCharge.j0.eq_2 ..) (Ev.neg nn (Ev.bind im (Ev.bind im' (Ev.neg q (Ev.pos q' (Ev.now _)))))))))⟩
    ·exact ⟨_, Ev.bind h1 (Ev.pos c (Ev.bind h1' (Ev.step (fun k => spec_CheaperCharge.j0.eq_2 ..) (Ev.neg nn (Ev.bind sp (Ev.bind sp' (Ev.neg q (Ev.neg q' (Ev.now _))))))))), Ev.bind h2 (Ev.pos c (Ev.bind h2' (Ev.step (fun k => impl_CheaperCharge.j0.eq_2 ..) (Ev.neg nn (Ev.bind im (Ev.bind im' (Ev.neg q (Ev.neg q' (Ev.now _)))))))))⟩
  ·have c0 : b' = false := by cases b' <;> simp_all
   subst c0
   exact ⟨_, Ev.bind h1 (Ev.pos c (Ev.bind h1' js)), Ev.bind h2 (Ev.pos c (Ev.bind h2' ji))⟩
 ·exact ⟨_, Ev.bind h1 (Ev.neg c js), Ev.bind h2 (Ev.neg c ji)⟩
theorem freeBoth (f : Int) (st : List S45) (hl : st.length ≤ 1048577) (g a : Int) : ∃ r : Int × (List S45) × Int × Bool, Ev (fun k => spec_AddFreeDays.f k f st g a) r ∧ Ev (fun k => impl_AddFreeDays.f k f st g a) r ∧ r.2.1.length ≤ 1048577 := by
 obtain ⟨b, h1, h2, h3⟩ := good f st hl g;obtain ⟨b', h1', h2', _⟩ := good (wrap64 (f + a)) st hl g
 unfold spec_AddFreeDays.f impl_AddFreeDays.f
 have js : Ev (fun k => spec_AddFreeDays.j0 k a true f st g) (0, [], 0, false) := Ev.step (fun k => spec_AddFreeDays.j0.eq_2 ..) (Ev.pos rfl (Ev.now _));have ji : Ev (fun k => impl_AddFreeDays.j0 k a true f st g) (0, [], 0, false) := Ev.step (fun k => impl_AddFreeDays.j0.eq_2 ..) (Ev.pos rfl (Ev.now _))
 have os : spec_l22Own.f f st g = some (f, st, g) := by
  unfold spec_l22Own.f
  rw [Option.bind_some, if_pos (by simp; omega)]
  rfl
 have oi : impl_ownCharge.f f st g = some (f, st, g) := by
  unfold impl_ownCharge.f slices_Clone_impl_RateStep.f
  rw [Option.bind_some, if_pos (by simp; omega)]
  rfl
 by_cases c : b = true
 ·by_cases c1 : -30 ≤ a ∧ a ≤ 30
  ·have nn : ¬ (!decide (-30 ≤ a ∧ a ≤ 30)) = true := by rw [decide_eq_true c1]; exact fun h => by cases h
   by_cases c2 : b' = true
   ·exact ⟨(wrap64 (f + a), st, g, true), Ev.bind h1 (Ev.pos c (Ev.const (l1In_eq _ _ _) (Ev.step (fun k => spec_AddFreeDays.j0.eq_2 ..) (Ev.neg nn (Ev.const os (Ev.bind h1' (Ev.pos c2 (Ev.now _)))))))),
     Ev.bind h2 (Ev.pos c (Ev.const (within_eq _ _ _) (Ev.step (fun k => impl_AddFreeDays.j0.eq_2 ..) (Ev.neg nn (Ev.const oi (Ev.bind h2' (Ev.pos c2 (Ev.now _)))))))), hl⟩
   ·exact ⟨(0, [], 0, false), Ev.bind h1 (Ev.pos c (Ev.const (l1In_eq _ _ _) (Ev.step (fun k => spec_AddFreeDays.j0.eq_2 ..) (Ev.neg nn (Ev.const os (Ev.bind h1' (Ev.neg c2 (Ev.now _)))))))),
     Ev.bind h2 (Ev.pos c (Ev.const (within_eq _ _ _) (Ev.step (fun k => impl_AddFreeDays.j0.eq_2 ..) (Ev.neg nn (Ev.const oi (Ev.bind h2' (Ev.neg c2 (Ev.now _)))))))), Nat.zero_le _⟩
  ·refine ⟨(0, [], 0, false), Ev.bind h1 (Ev.pos c (Ev.const (l1In_eq _ _ _) ?_)), Ev.bind h2 (Ev.pos c (Ev.const (within_eq _ _ _) ?_)), Nat.zero_le _⟩
   ·rw [decide_eq_false c1]; exact js
   ·rw [decide_eq_false c1]; exact ji
 ·exact ⟨(0, [], 0, false), Ev.bind h1 (Ev.neg c js), Ev.bind h2 (Ev.neg c ji), Nat.zero_le _⟩
theorem textTold (f : Int) (st : List S45) (hl : st.length ≤ 1048577) (g : Int) : ∃ r : ByteArray × Bool, Ev (fun k => spec_ChargeText.f k f st g) r ∧ Ev (fun k => impl_ChargeText.f k f st g) r ∧ r.1.size ≤ 200 ∧ (r.2 = true → Good f st g ∧ r.1 = TX f st g) := by
 obtain ⟨r, h1, h2⟩ := chargeTextBoth f st hl g;obtain ⟨q, q1, q2, q3⟩ := specText f st hl g;obtain rfl : q = r := Ev.funct q1 h1;refine ⟨q, h1, h2, ?_, q2⟩
 by_cases c : q.2 = true
 ·obtain ⟨hg, e⟩ := q2 c;rw [e]
  exact TX_size hg
 ·obtain ⟨b, b1, _, b3⟩ := good f st hl g
  have nb : ¬ b = true := fun hb => c (by rw [q3 (b3.1 hb)])
  have z : Ev (fun k => spec_ChargeText.f k f st g) ((⟨#[]⟩ : ByteArray), false) := by
   unfold spec_ChargeText.f
   exact Ev.bind b1 (Ev.neg nb (Ev.now _))
  rw [Ev.funct q1 z]
  exact Nat.zero_le _
theorem spoiltAny {c : List Int} (hc : Bytes c) {a : Int} (s : Int) (t : ByteArray) (ht' : t.size ≤ 1000) (w : ByteArray) (hw : w.size = 4) (h0 : 0 ≤ a) (h1 : a ≤ 1000000000000000000) : Has (fun _ => spec_l1Cur_spoilt.f c a s t w) (fun r => r.1.size ≤ 1048576) := by
 unfold spec_l1Cur_spoilt.f
 refine Has.ite (fun _ => Has.pos (by omega) (Has.pos (by omega) (Has.now (by simp only [ByteArray.size_extract]; omega)))) (fun hne => ?_)
 have ht : 1 ≤ t.size := by
  rcases Nat.eq_zero_or_pos t.size with h | h
  ·exact absurd ((tl t).trans (List.eq_nil_of_length_eq_zero h)) hne
  ·exact h
 refine Has.bind (pick hc s _ h0 (by omega)) fun i ⟨i0, i1, i2, i3, i4⟩ => ?_
 have i5 : i.1 < (t.size : Int) := by
  rcases Int.lt_or_le 1 (t.size : Int) with h | h
  ·exact i1 h
  ·have := i2 h
   omega
 refine Has.bind (pick hc i.2.2 _ (by omega) (by omega)) fun j ⟨j0, j1, _, j3, j4⟩ => ?_
 have j5 := j1 (by omega);rw [show wrap64 (i.1 + 1) = i.1 + 1 from w64 (by omega) (by omega)];refine Has.pos j0 (Has.pos (by omega) (Has.pos (by omega) (Has.pos (by rw [ByteArray.size_extract]; omega) (Has.bind (pick hc j.2.2 3 (by omega) (by omega)) fun q ⟨_, _, _, q3, q4⟩ => ?_))));refine Has.ite (fun _ => Has.pos i0 (Has.pos (by omega) ?_)) (fun _ => Has.ite (fun _ => Has.pos i0 (Has.pos (by omega) ?_)) (fun _ => Has.pos i0 (Has.pos (by omega) ?_)))
 ·exact Has.pos (by simp only [ByteArray.size_extract]; omega) (Has.pos (by simp only [ByteArray.size_append, ByteArray.size_extract]; omega) (Has.now (by simp only [ByteArray.size_append, ByteArray.size_extract]; omega)))
 ·exact Has.pos (by simp only [ByteArray.size_extract]; omega) (Has.pos (by omega) (Has.pos (by omega) (Has.pos (by simp only [ByteArray.size_append, ByteArray.size_extract]; omega) (Has.now (by simp only [ByteArray.size_append, ByteArray.size_extract]; omega)))))
 ·exact Has.pos (by omega) (Has.pos (by omega) (Has.pos (by simp only [ByteArray.size_extract]; omega) (Has.now (by simp only [ByteArray.size_append, ByteArray.size_extract]; omega))))
theorem draw_parse {c : List Int} (hc : Bytes c) : Has (fun k => spec_DrawParseCharge.f k c) (fun r => r.size ≤ 1048576) := by
 unfold spec_DrawParseCharge.f
 refine Has.bind (draw_charge hc 0 (by omega) (by omega)) fun x ⟨x1, x2, x3⟩ => ?_
 obtain ⟨r, r1, _, r3, _⟩ := textTold x.1 x.2.1 (by omega) x.2.2.1;refine Has.ev r1 (Has.bind (one hc x.2.2.2.2 4 (by omega) (by omega)) fun q ⟨q1, q2⟩ => Has.ite (fun _ => ?_) (fun _ => Has.now (by omega)))
 exact Has.bind (spoiltAny hc q.2.2 r.1 (by omega) _ rfl (by omega) (by omega)) fun v hv => Has.now hv
theorem rRateSteps (f : Int) (st : List S45) (g : Int) (hl : st.length ≤ 1048577) : Ev (fun k => laws_rCharges.f k f st g f st g) true := by
 unfold laws_rCharges.f
 have main : ∀ d i : Nat, i + d = st.length → Ev (fun k => laws_rCharges.l0 k i f st g f st g) true := by
  intro d
  induction d with
  | zero =>
   intro i hi
   exact Ev.step (fun k => laws_rCharges.l0.eq_2 ..) (Ev.neg (by omega) (Ev.now _))
  | succ d ih =>
   intro i hi;refine Ev.step (fun k => laws_rCharges.l0.eq_2 ..) (Ev.pos (by omega) (Ev.pos (by omega) (Ev.pos (by omega) (Ev.neg (by simp) ?_))));rw [show wrap64 ((i : Int) + 1) = ((i + 1 : Nat) : Int) from by rw [w64 (by omega) (by omega)]; rfl]
   exact ih (i + 1) (by omega)
 exact Ev.pos rfl (Ev.pos rfl (Ev.step (fun k => laws_rCharges.j0.eq_2 ..) (Ev.neg (by simp) (main st.length 0 (by omega)))))
def other (n : Int) : Int := if n = 1 then 2 else if n = 2 then 1 else 0
theorem cheaperOther (f : Int) (st : List S45) (hl : st.length ≤ 1048577) (g f' : Int) (st' : List S45) (hl' : st'.length ≤ 1048577) (g' size days : Int) :
  ∃ r q : Int × Bool, Ev (fun k => impl_CheaperCharge.f k f st g f' st' g' size days) r ∧ Ev (fun k => impl_CheaperCharge.f k f' st' g' f st g size days) q ∧ q.2 = r.2 ∧ (r.2 = true → q.1 = other r.1 ∧ (r.1 = 0 ∨ r.1 = 1 ∨ r.1 = 2)) := by
 obtain ⟨b, _, h2, h3⟩ := asked f st hl g size days;obtain ⟨b', _, h2', h3'⟩ := asked f' st' hl' g' size days
 unfold impl_CheaperCharge.f
 have ji : ∀ (f : Int) (st : List S45) (g f' : Int) (st' : List S45) (g' : Int), Ev (fun k => impl_CheaperCharge.j0 k size days true f st g f' st' g') (0, false) := fun _ _ _ _ _ _ => Ev.step (fun k => impl_CheaperCharge.j0.eq_2 ..) (Ev.pos rfl (Ev.now _))
 by_cases c : b = true
 ·by_cases c' : b' = true
  ·obtain ⟨hg, _, d0, d1⟩ := h3.1 c;obtain ⟨hg', _, _, _⟩ := h3'.1 c';have im := implPay f st g hg size days d0 d1;have im' := implPay f' st' g' hg' size days d0 d1
   have nn : ¬ (!b') = true := by rw [c']; exact fun h => by cases h
   have nn' : ¬ (!b) = true := by rw [c]; exact fun h => by cases h
   by_cases q : paySize f st g size days < paySize f' st' g' size days
   ·exact ⟨(1, true), (2, true), Ev.bind h2 (Ev.pos c (Ev.bind h2' (Ev.step (fun k => impl_CheaperCharge.j0.eq_2 ..) (Ev.neg nn (Ev.bind im (Ev.bind im' (Ev.pos q (Ev.now _)))))))),
     Ev.bind h2' (Ev.pos c' (Ev.bind h2 (Ev.step (fun k => impl_CheaperCharge.j0.eq_2 ..) (Ev.neg nn' (Ev.bind im' (Ev.bind im (Ev.neg (by omega) (Ev.pos q (Ev.now _))))))))), rfl, fun _ => ⟨rfl, by simp⟩⟩
   ·by_cases q' : paySize f' st' g' size days < paySize f st g size days
    ·exact ⟨(2, true), (1, true), Ev.bind h2 (Ev.pos c (Ev.bind h2' (Ev.step (fun k => impl_CheaperCharge.j0.eq_2 ..) (Ev.neg nn (Ev.bind im (Ev.bind im' (Ev.neg q (Ev.pos q' (Ev.now _))))))))),
      Ev.bind h2' (Ev.pos c' (Ev.bind h2 (Ev.step (fun k => impl_CheaperCharge.j0.eq_2 ..) (Ev.neg nn' (Ev.bind im' (Ev.bind im (Ev.pos q' (Ev.now _)))))))), rfl, fun _ => ⟨rfl, by simp⟩⟩
    ·exact ⟨(0, true), (0, true), Ev.bind h2 (Ev.pos c (Ev.bind h2' (Ev.step (fun k => impl_CheaperCharge.j0.eq_2 ..) (Ev.neg nn (Ev.bind im (Ev.bind im' (Ev.neg q (Ev.neg q' (Ev.now _))))))))),
      Ev.bind h2' (Ev.pos c' (Ev.bind h2 (Ev.step (fun k => impl_CheaperCharge.j0.eq_2 ..) (Ev.neg nn' (Ev.bind im' (Ev.bind im (Ev.neg q' (Ev.neg q (Ev.now _))))))))), rfl, fun _ => ⟨rfl, by simp⟩⟩
  ·have c0 : b' = false := by cases b' <;> simp_all
   subst c0
   exact ⟨(0, false), (0, false), Ev.bind h2 (Ev.pos c (Ev.bind h2' (ji _ _ _ _ _ _))), Ev.bind h2' (Ev.neg (by simp) (ji _ _ _ _ _ _)), rfl, fun h => by cases h⟩
 ·have c0 : b = false := by cases b <;> simp_all
  subst c0;refine ⟨(0, false), (0, false), Ev.bind h2 (Ev.neg (by simp) (ji _ _ _ _ _ _)), ?_, rfl, fun h => by cases h⟩
  by_cases c' : b' = true
  ·exact Ev.bind h2' (Ev.pos c' (Ev.bind h2 (ji _ _ _ _ _ _)))
  ·exact Ev.bind h2' (Ev.neg c' (ji _ _ _ _ _ _))
theorem freeBack (f : Int) (st : List S45) (hl : st.length ≤ 1048577) (g a : Int) (ha : -1000 ≤ a ∧ a ≤ 1000) : ∃ r : Int × (List S45) × Int × Bool, Ev (fun k => spec_AddFreeDays.f k f st g a) r ∧ Ev (fun k => impl_AddFreeDays.f k f st g a) r ∧ r.2.1.length ≤ 1048577 ∧
  (r.2.2.2 = true → Ev (fun k => impl_AddFreeDays.f k r.1 r.2.1 r.2.2.1 (-a)) (f, st, g, true)) := by
 obtain ⟨r, r1, r2, r3⟩ := freeBoth f st hl g a;refine ⟨r, r1, r2, r3, fun hr => ?_⟩;obtain ⟨b, _, h2, h3⟩ := good f st hl g;obtain ⟨b', _, h2', h3'⟩ := good (wrap64 (f + a)) st hl g
 have oi : ∀ f : Int, impl_ownCharge.f f st g = some (f, st, g) := fun f => by
  unfold impl_ownCharge.f slices_Clone_impl_RateStep.f
  rw [Option.bind_some, if_pos (by simp; omega)]
  rfl
 have ji : ∀ (f a : Int), Ev (fun k => impl_AddFreeDays.j0 k a true f st g) (0, [], 0, false) := fun _ _ => Ev.step (fun k => impl_AddFreeDays.j0.eq_2 ..) (Ev.pos rfl (Ev.now _))
 have told : (b = true ∧ (-30 ≤ a ∧ a ≤ 30) ∧ b' = true) ∧ r = (wrap64 (f + a), st, g, true) := by
  have e : Ev (fun k => impl_AddFreeDays.f k f st g a) (if b = true ∧ (-30 ≤ a ∧ a ≤ 30) ∧ b' = true then (wrap64 (f + a), st, g, true) else (0, [], 0, false)) := by
   unfold impl_AddFreeDays.f
   by_cases c : b = true
   ·by_cases c1 : -30 ≤ a ∧ a ≤ 30
    ·have nn : ¬ (!decide (-30 ≤ a ∧ a ≤ 30)) = true := by rw [decide_eq_true c1]; exact fun h => by cases h
     by_cases c2 : b' = true
     ·rw [if_pos ⟨c, c1, c2⟩]
      exact Ev.bind h2 (Ev.pos c (Ev.const (within_eq _ _ _) (Ev.step (fun k => impl_AddFreeDays.j0.eq_2 ..) (Ev.neg nn (Ev.const (oi f) (Ev.bind h2' (Ev.pos c2 (Ev.now _))))))))
     ·rw [if_neg (fun h => c2 h.2.2)]
      exact Ev.bind h2 (Ev.pos c (Ev.const (within_eq _ _ _) (Ev.step (fun k => impl_AddFreeDays.j0.eq_2 ..) (Ev.neg nn (Ev.const (oi f) (Ev.bind h2' (Ev.neg c2 (Ev.now _))))))))
    ·rw [if_neg (fun h => c1 h.2.1)];refine Ev.bind h2 (Ev.pos c (Ev.const (within_eq _ _ _) ?_));rw [decide_eq_false c1]
     exact ji f a
   ·rw [if_neg (fun h => c h.1)]
    exact Ev.bind h2 (Ev.neg c (ji f a))
  have := Ev.funct r2 e
  by_cases cc : b = true ∧ (-30 ≤ a ∧ a ≤ 30) ∧ b' = true
  ·rw [if_pos cc] at this
   exact ⟨cc, this⟩
  ·rw [if_neg cc] at this;rw [this] at hr;cases hr
 obtain ⟨⟨c, c1, c2⟩, e⟩ := told;have hg := h3.1 c;have f0 := hg.1;have w1 : wrap64 (f + a) = f + a := w64 (by omega) (by omega);rw [e]
 show Ev (fun k => impl_AddFreeDays.f k (wrap64 (f + a)) st g (-a)) (f, st, g, true)
 have w2 : wrap64 (wrap64 (f + a) + -a) = f := by rw [w1, w64 (by omega) (by omega)]; omega
 have n1 : -30 ≤ -a ∧ -a ≤ 30 := by omega
 have nn : ¬ (!decide (-30 ≤ -a ∧ -a ≤ 30)) = true := by rw [decide_eq_true n1]; exact fun h => by cases h
 unfold impl_AddFreeDays.f
 refine Ev.bind h2' (Ev.pos c2 (Ev.const (within_eq _ _ _) (Ev.step (fun k => impl_AddFreeDays.j0.eq_2 ..) (Ev.neg nn (Ev.const (oi _) ?_)))));rw [w2]
 exact Ev.bind h2 (Ev.pos c (Ev.now _))
theorem tariffs4 {c : List Int} (hc : Bytes c) : Has (fun k => laws_FnTariffs.j4 k c false) (fun r => r = true) := by
 refine Has.step (fun k => laws_FnTariffs.j4.eq_2 ..) (Has.neg (by simp) ?_)
 unfold spec_DrawAddFreeDays.f
 refine Has.bind (P := fun r => r.2.1.length ≤ 30 ∧ -1000 ≤ r.2.2.2 ∧ r.2.2.2 ≤ 1000) ?_ fun x ⟨hx, ha⟩ => ?_
 ·refine Has.bind (draw_charge hc 0 (by omega) (by omega)) fun a ⟨a1, a2, a3⟩ => Has.bind (among hc a.2.2.2.2 _ (by simp) (by omega) (by omega)) fun b ⟨b1, _⟩ => Has.now ⟨a1, ?_⟩
  simp at b1
  simp only
  omega
 obtain ⟨r, r1, r2, r3, r4⟩ := freeBack x.1 x.2.1 (by omega) x.2.2.1 x.2.2.2 ha;refine Has.ev r2 (Has.ev r1 (Has.neg (by simp) (Has.ev (rRateSteps r.1 r.2.1 r.2.2.1 r3) (Has.step (fun k => laws_FnTariffs.j5.eq_2 ..) (Has.neg (by simp) (Has.ite (fun hr => ?_) (fun _ => Has.now rfl)))))));rw [show wrap64 (-x.2.2.2) = -x.2.2.2 from w64 (by omega) (by omega)]
 exact Has.ev (r4 hr) (Has.pos rfl (Has.ev (rRateSteps x.1 x.2.1 x.2.2.1 (by omega)) (Has.now rfl)))
theorem tariffs1 {c : List Int} (hc : Bytes c) : Has (fun k => laws_FnTariffs.j1 k c) (fun r => r = true) := by
 refine Has.step (fun k => laws_FnTariffs.j1.eq_2 ..) (Has.bind (draw_parse hc) fun t ht => ?_);obtain ⟨p, p1, p2, p3, _⟩ := parseBoth t ht;refine Has.ev p2 (Has.ev p1 (Has.neg (by simp) (Has.ev (rRateSteps p.1 p.2.1 p.2.2.1 p3.1) (Has.step (fun k => laws_FnTariffs.j2.eq_2 ..) (Has.neg (by simp) ?_)))))
 unfold spec_DrawCheaperCharge.f
 refine Has.bind (P := fun r => r.2.1.length ≤ 1048577 ∧ r.2.2.2.2.1.length ≤ 1048577) ?_ fun x ⟨hx, hy⟩ => ?_
 ·refine Has.bind (draw_charge hc 0 (by omega) (by omega)) fun a ⟨a1, a2, a3⟩ => Has.bind (draw_charge hc a.2.2.2.2 (by omega) (by omega)) fun b ⟨b1, b2, b3⟩ => Has.bind (one hc b.2.2.2.2 3 (by omega) (by omega)) fun q ⟨q1, q2⟩ => ?_
  have os : spec_l22Own.f a.1 a.2.1 a.2.2.1 = some (a.1, a.2.1, a.2.2.1) := by
   unfold spec_l22Own.f
   rw [Option.bind_some, if_pos (by simp; omega)]
   rfl
  refine Has.ite (fun _ => Has.const os ?_) (fun _ => ?_)
  ·exact Has.bind (draw_size22 hc q.2.2 (by omega) (by omega)) fun u ⟨u1, u2⟩ => Has.bind (draw_stay hc u.2.2 (by omega) (by omega)) fun v _ => Has.now ⟨by simp only; omega, by simp only; omega⟩
  ·exact Has.bind (draw_size22 hc q.2.2 (by omega) (by omega)) fun u ⟨u1, u2⟩ => Has.bind (draw_stay hc u.2.2 (by omega) (by omega)) fun v _ => Has.now ⟨by simp only; omega, by simp only; omega⟩
 obtain ⟨r, q, h1, h2, h3, h4⟩ := cheaperOther x.1 x.2.1 hx x.2.2.1 x.2.2.2.1 x.2.2.2.2.1 hy x.2.2.2.2.2.1 x.2.2.2.2.2.2.1 x.2.2.2.2.2.2.2;obtain ⟨r', s1, s2⟩ := cheaperBoth x.1 x.2.1 hx x.2.2.1 x.2.2.2.1 x.2.2.2.2.1 hy x.2.2.2.2.2.1 x.2.2.2.2.2.2.1 x.2.2.2.2.2.2.2;obtain rfl : r' = r := Ev.funct s2 h1;refine Has.ev h1 (Has.ev h2 (Has.ev s1 (Has.pos rfl (Has.neg (by simp) ?_))));rw [h3, show (r'.2 != r'.2) = false from by simp];refine Has.step (fun k => laws_FnTariffs.j3.eq_2 ..) (Has.neg (by simp) (Has.ite (fun hr => ?_) (fun _ => tariffs4 hc)));obtain ⟨e, hn⟩ := h4 hr;rw [e]
 rcases hn with n0 | n0 | n0
 ·rw [n0]
  exact Has.pos rfl (Has.pos rfl (Has.neg (by decide) (Has.neg (by decide) (tariffs4 hc))))
 ·rw [n0]
  exact Has.neg (by decide) (Has.pos rfl (Has.pos rfl (Has.neg (by decide) (tariffs4 hc))))
 ·rw [n0]
  exact Has.neg (by decide) (Has.neg (by decide) (Has.pos rfl (tariffs4 hc)))
theorem FnTariffs : ∀ (l0 : (List Int)), (l0.length ≤ 9223372036854775807 ∧ ∀ x ∈ l0, (Lit.int .u8 x).wf = true) → ∃ k, laws_FnTariffs.f k l0 = some true := by
 intro l0 ⟨_, hw⟩
 have hc : Bytes l0 := bytes_wf hw
 suffices h : Has (fun k => laws_FnTariffs.f k l0) (fun r => r = true) by
  obtain ⟨r, hr, rfl⟩ := h
  exact Ev.rounds hr
 unfold laws_FnTariffs.f laws_rBig.f
 refine Has.val (Has.ite (fun _ => Has.now rfl) (fun _ => ?_))
 unfold spec_DrawChargeText.f spec_DrawIsValidCharge.f
 refine Has.bind (P := fun r => r.2.1.length ≤ 30) ?_ fun x hx => ?_
 ·refine Has.bind (P := fun r => r.2.1.length ≤ 30) (Has.bind (draw_charge hc 0 (by omega) (by omega)) fun a ⟨a1, _, _⟩ => Has.now a1) fun a ha => Has.now ha
 obtain ⟨r, h1, h2, h3, h4⟩ := textTold x.1 x.2.1 (by omega) x.2.2;refine Has.ev h2 (Has.ev h1 (Has.pos rfl (Has.step (fun k => laws_FnTariffs.j0.eq_2 ..) (Has.neg (by simp) (Has.ite (fun hr => ?_) (fun _ => tariffs1 hc))))));obtain ⟨hg, e⟩ := h4 hr;obtain ⟨p, _, p2, _, p4⟩ := parseBoth r.1 (by omega);have := p4 _ _ _ hg e;subst this
 exact Has.ev p2 (Has.pos rfl (Has.ev (rRateSteps x.1 x.2.1 x.2.2 (by omega)) (Has.pos rfl (tariffs1 hc))))
end Go.Proofs.YtciecfaeeogdoaaGreatDoor.Pure
