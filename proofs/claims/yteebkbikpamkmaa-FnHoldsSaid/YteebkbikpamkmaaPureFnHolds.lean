/- The drawn files: after releasing all holds of a container there are none at the end, and held containers are those with holds. No condition. -/
import Derived.Test.YteebkbikpamkmaaInvFnHolds
import Derived.Test.YteebkbikpamkmaaWHelp
import Derived.Lib.Zigzag
import Derived.Sort.Walk0
namespace Go.Proofs.Yteebkbikpamkmaa.Pure
open Go.RowKit Go.Proofs.YteebkbikpamkmaaW.PrintWords Go.Proofs.YteebkbikpamkmaaW.PrintLast Go.Proofs.YteebkbikpamkmaaW.PrintMore Go.Proofs.YteebkbikpamkmaaW.Help Go.Proofs.Yteebkbikpamkmaa.PFnHolds
set_option linter.unusedVariables false

/-- From some number of rounds on there is a value, and it is as told. -/
def Has {α : Type} (g : Nat → Option α) (Q : α → Prop) : Prop := ∃ r, Ev g r ∧ Q r
theorem Has.bind {α β : Type} {g : Nat → Option α} {f : Nat → α → Option β} {P : α → Prop} {Q : β → Prop} (h : Has g P) (k : ∀ a, P a → Has (fun n => f n a) Q) : Has (fun n => (g n).bind (f n)) Q := by
  obtain ⟨a, h1, h2⟩ := h
  obtain ⟨r, r1, r2⟩ := k a h2
  exact ⟨r, Ev.bind h1 r1, r2⟩
theorem Has.pos {α : Type} {c : Prop} [Decidable c] {A B : Nat → Option α} {Q : α → Prop} (h : c) (k : Has A Q) : Has (fun n => if c then A n else B n) Q := by
  obtain ⟨r, r1, r2⟩ := k
  exact ⟨r, Ev.pos h r1, r2⟩
theorem Has.neg {α : Type} {c : Prop} [Decidable c] {A B : Nat → Option α} {Q : α → Prop} (h : ¬ c) (k : Has B Q) : Has (fun n => if c then A n else B n) Q := by
  obtain ⟨r, r1, r2⟩ := k
  exact ⟨r, Ev.neg h r1, r2⟩
theorem Has.ite {α : Type} {c : Prop} [Decidable c] {A B : Nat → Option α} {Q : α → Prop} (h1 : c → Has A Q) (h2 : ¬ c → Has B Q) : Has (fun n => if c then A n else B n) Q := by
  by_cases h : c
  · exact Has.pos h (h1 h)
  · exact Has.neg h (h2 h)
theorem Has.now {α : Type} {a : α} {Q : α → Prop} (h : Q a) : Has (fun _ => some a) Q := ⟨a, Ev.now _, h⟩
theorem Has.step {α : Type} {g s : Nat → Option α} {Q : α → Prop} (e : ∀ k, g (k + 1) = s k) (h : Has s Q) : Has g Q := by
  obtain ⟨r, r1, r2⟩ := h
  exact ⟨r, Ev.step e r1, r2⟩
theorem Has.mono {α : Type} {g : Nat → Option α} {P Q : α → Prop} (h : Has g P) (k : ∀ a, P a → Q a) : Has g Q := by
  obtain ⟨r, r1, r2⟩ := h
  exact ⟨r, r1, k r r2⟩
theorem Has.val {α β : Type} {a : α} {f : Nat → α → Option β} {Q : β → Prop} (k : Has (fun n => f n a) Q) : Has (fun n => (some a).bind (f n)) Q := k
theorem Has.const {α β : Type} {o : Option α} {f : Nat → α → Option β} {a : α} {Q : β → Prop} (h : o = some a) (k : Has (fun n => f n a) Q) : Has (fun n => o.bind (f n)) Q := by
  obtain ⟨r, r1, r2⟩ := k
  exact ⟨r, Ev.const h r1, r2⟩
theorem Has.of {α : Type} {g : Nat → Option α} {r : α} {Q : α → Prop} (h : Ev g r) (k : Q r) : Has g Q := ⟨r, h, k⟩
theorem Has.ev {α β : Type} {g : Nat → Option α} {f : Nat → α → Option β} {a : α} {Q : β → Prop} (h : Ev g a) (k : Has (fun n => f n a) Q) : Has (fun n => (g n).bind (f n)) Q := by
  obtain ⟨r, r1, r2⟩ := k
  exact ⟨r, Ev.bind h r1, r2⟩

/-- The drawing's bytes. -/
def Bytes (c : List Int) : Prop := ∀ x ∈ c, 0 ≤ x ∧ x ≤ 255
theorem bytes_wf {c : List Int} (h : ∀ x ∈ c, (Lit.int .u8 x).wf = true) : Bytes c := fun x hx => by
  have := h x hx
  simp [Lit.wf, IntKind.min, IntKind.max, IntKind.signed, IntKind.bits] at this
  omega
theorem byte_of (y : Int) : 0 ≤ y % 2 ^ 8 ∧ y % 2 ^ 8 ≤ 255 := by omega
theorem byte_w (z : Int) (h : 0 ≤ z ∧ z ≤ 255) : 0 ≤ wrap64 z ∧ wrap64 z ≤ 255 := by
  rw [w64 (by omega) (by omega)]
  exact h
theorem high_of (s : Int) : 0 ≤ IntKind.u64.wrap s / 1099511627776 ∧ IntKind.u64.wrap s / 1099511627776 < 2 ^ 64 := by
  rw [IntKind.wrap_u64]
  omega
theorem low_byte (s : Int) : 0 ≤ wrap64 (Go.bits .and .u64 (IntKind.u64.wrap s / 1099511627776) 255) ∧ wrap64 (Go.bits .and .u64 (IntKind.u64.wrap s / 1099511627776) 255) ≤ 255 := by
  have h0 := high_of s
  generalize IntKind.u64.wrap s / 1099511627776 = y at h0 ⊢
  have e : Go.bits .and .u64 y 255 = y % 2 ^ 8 := bits_mask .u64 64 (by decide) Go.wraps_u64 8 (by decide) y h0.1 h0.2
  rw [e]
  exact byte_w _ (byte_of _)
theorem next_some (c : List Int) (hc : Bytes c) (a s : Int) (h0 : 0 ≤ a) (h1 : a ≤ 4611686018427387904) : ∃ x t, spec_l1Cur_next.f c a s = some (x, a + 1, t) ∧ 0 ≤ x ∧ x ≤ 255 := by
  unfold spec_l1Cur_next.f
  rw [show wrap64 (a + 1) = a + 1 from w64 (by omega) (by omega)]
  by_cases q : a < (c.length : Int)
  · have e : 0 ≤ rd c a ∧ rd c a ≤ 255 := by
      unfold rd
      rw [getD_of (List.getElem?_eq_getElem (by omega))]
      exact hc _ (List.getElem_mem _)
    rw [if_pos q, if_pos h0, if_pos (by omega), w64 (by omega) (by omega)]
    exact ⟨_, _, rfl, e⟩
  · rw [if_neg q, if_neg (by omega)]
    exact ⟨_, _, rfl, low_byte _⟩
/-- A drawn number: the number itself and how far the drawing is. -/
def Dr (n a : Int) (r : Int × Int × Int) : Prop := 0 ≤ r.1 ∧ (1 < n → r.1 < n) ∧ (n ≤ 1 → r.1 = 0) ∧ a ≤ r.2.1 ∧ r.2.1 ≤ a + 2
theorem pick_some (c : List Int) (hc : Bytes c) (a s n : Int) (h0 : 0 ≤ a) (h1 : a ≤ 2305843009213693952) : ∃ r, spec_l1Cur_pick.f c a s n = some r ∧ Dr n a r := by
  unfold spec_l1Cur_pick.f
  by_cases q : n ≤ 1
  · rw [if_pos q]
    exact ⟨_, rfl, by simp [Dr]; omega⟩
  · rw [if_neg q]
    obtain ⟨x, t, e, x0, x1⟩ := next_some c hc a s h0 (by omega)
    rw [e]
    simp only [Option.bind_some]
    by_cases q2 : n > 200
    · rw [if_pos q2]
      obtain ⟨y, u, e2, y0, y1⟩ := next_some c hc (a + 1) t (by omega) (by omega)
      rw [e2]
      simp only [Option.bind_some]
      rw [if_neg (by omega), show wrap64 (x * 256) = x * 256 from w64 (by omega) (by omega), show wrap64 (x * 256 + y) = x * 256 + y from w64 (by omega) (by omega), Int.tmod_eq_emod_of_nonneg (by omega)]
      have m0 := Int.emod_nonneg (x * 256 + y) (show n ≠ 0 by omega)
      have m1 := Int.emod_lt_of_pos (x * 256 + y) (show 0 < n by omega)
      exact ⟨_, rfl, by simp only [Dr]; omega⟩
    · rw [if_neg q2, if_neg (by omega), Int.tmod_eq_emod_of_nonneg (by omega)]
      have m0 := Int.emod_nonneg x (show n ≠ 0 by omega)
      have m1 := Int.emod_lt_of_pos x (show 0 < n by omega)
      exact ⟨_, rfl, by simp only [Dr]; omega⟩
theorem pick {c : List Int} (hc : Bytes c) {a : Int} (s n : Int) (h0 : 0 ≤ a) (h1 : a ≤ 2305843009213693952) : Has (fun _ => spec_l1Cur_pick.f c a s n) (Dr n a) := by
  obtain ⟨r, e, d⟩ := pick_some c hc a s n h0 h1
  exact ⟨r, Ev.nor e, d⟩
/-- How far a drawing is behind at most m numbers. -/
def Far {α : Type} (m a : Int) (r : α × Int × Int) : Prop := a ≤ r.2.1 ∧ r.2.1 ≤ a + m
theorem among {c : List Int} (hc : Bytes c) {a : Int} (s : Int) (l : List Int) (hl : l ≠ []) (h0 : 0 ≤ a) (h1 : a ≤ 2305843009213693952) : Has (fun _ => spec_l1Cur_among.f c a s l) (fun r => r.1 ∈ l ∧ a ≤ r.2.1 ∧ r.2.1 ≤ a + 2) := by
  have hn : 0 < l.length := List.length_pos_iff.2 hl
  unfold spec_l1Cur_among.f
  refine Has.bind (pick hc s _ h0 h1) fun r ⟨r0, r1, r2, r3, r4⟩ => ?_
  have r5 : r.1 < (l.length : Int) := by
    rcases Int.lt_or_le 1 (l.length : Int) with h | h
    · exact r1 h
    · have := r2 h
      omega
  refine Has.pos r0 (Has.pos r5 (Has.now ⟨?_, r3, r4⟩))
  unfold rd
  rw [getD_of (List.getElem?_eq_getElem (by omega))]
  exact List.getElem_mem _
/-- A number of the first ones of a list. -/
theorem amongCut {β : Type} {c : List Int} (hc : Bytes c) {a : Int} (s : Int) (l : List Int) (b : Int) (hb : 1 ≤ b) (hl : b + 2 ≤ (l.length : Int)) (hm : (l.length : Int) ≤ 1000) (h0 : 0 ≤ a) (h1 : a ≤ 1152921504606846976) {K : Nat → Int × Int × Int → Option β} {Q : β → Prop}
    (k : ∀ r : Int × Int × Int, r.1 ∈ l → a ≤ r.2.1 → r.2.1 ≤ a + 4 → Has (fun n => K n r) Q) :
    Has (fun n => (spec_l1Cur_pick.f c a s 24).bind fun bt => (if 0 ≤ (wrap64 (b + (wrap64 (Int.tdiv bt.1 11)))) then (if (wrap64 (b + (wrap64 (Int.tdiv bt.1 11)))) ≤ (l.length : Int) then ((spec_l1Cur_among.f c bt.2.1 bt.2.2 (l.take ((wrap64 (b + (wrap64 (Int.tdiv bt.1 11)))) : Int).toNat)).bind (K n)) else (none)) else (none))) Q := by
  refine Has.bind (pick hc s 24 h0 (by omega)) fun r ⟨r0, r1, _, r3, r4⟩ => ?_
  have r5 := r1 (by omega)
  have e : wrap64 (b + wrap64 (Int.tdiv r.1 11)) = b + r.1 / 11 := by
    rw [Int.tdiv_eq_ediv_of_nonneg r0, w64 (x := r.1 / 11) (by omega) (by omega), w64 (by omega) (by omega)]
  rw [e]
  refine Has.pos (by omega) (Has.pos (by omega) ?_)
  refine Has.bind (among hc (a := r.2.1) r.2.2 _ ?_ (by omega) (by omega)) fun q ⟨q0, q1, q2⟩ => k q (List.mem_of_mem_take q0) (by omega) (by omega)
  intro h
  have h2 := congrArg List.length h
  rw [List.length_take, List.length_nil] at h2
  omega

theorem one {c : List Int} (hc : Bytes c) {a : Int} (s n : Int) (h0 : 0 ≤ a) (h1 : a ≤ 2305843009213693952) : Has (fun _ => spec_l1Cur_one.f c a s n) (fun r => a ≤ r.2.1 ∧ r.2.1 ≤ a + 2) := by
  unfold spec_l1Cur_one.f
  exact Has.bind (pick hc s n h0 h1) fun r ⟨_, _, _, r3, r4⟩ => Has.now ⟨r3, r4⟩


theorem drawOf {c : List Int} (hc : Bytes c) {a : Int} (s : Int) (l : List ByteArray) (hl : l ≠ []) (h0 : 0 ≤ a) (h1 : a ≤ 2305843009213693952) : Has (fun _ => spec_l1Cur_of.f c a s l) (fun r => r.1 ∈ l ∧ a ≤ r.2.1 ∧ r.2.1 ≤ a + 2) := by
  have hn : 0 < l.length := List.length_pos_iff.2 hl
  unfold spec_l1Cur_of.f
  refine Has.bind (pick hc s _ h0 h1) fun r ⟨r0, r1, r2, r3, r4⟩ => ?_
  have r5 : r.1 < (l.length : Int) := by
    rcases Int.lt_or_le 1 (l.length : Int) with h | h
    · exact r1 h
    · have := r2 h
      omega
  refine Has.pos r0 (Has.pos r5 (Has.now ⟨?_, r3, r4⟩))
  unfold rdOf
  rw [List.getD_eq_getElem?_getD, List.getElem?_eq_getElem (by omega)]
  exact List.getElem_mem _
/-- The letter of a text of seven bytes or more: there is one. -/
theorem check7 (s : ByteArray) (hs : 7 ≤ s.size) : Has (fun k => spec_l2Check.f k s) (fun _ => True) := by
  unfold spec_l2Check.f
  have main : ∀ d i : Nat, i + d = 7 → ∀ a : Int, Has (fun k => spec_l2Check.l0 k s a i) (fun _ => True) := by
    intro d
    induction d with
    | zero =>
      intro i hi a
      exact Has.step (fun k => spec_l2Check.l0.eq_2 ..) (Has.neg (by omega) (Has.now trivial))
    | succ d ih =>
      intro i hi a
      refine Has.step (fun k => spec_l2Check.l0.eq_2 ..) (Has.pos (by omega) (Has.pos (by omega) (Has.pos (by omega) ?_)))
      rw [show wrap64 ((i : Int) + 1) = ((i + 1 : Nat) : Int) from by rw [w64 (by omega) (by omega)]; rfl]
      exact Has.ite (fun _ => ih (i + 1) (by omega) _) (fun _ => ih (i + 1) (by omega) _)
  exact main 7 0 (by omega) 0
theorem strOne (t : Int) : (strOfNums [t]).size = 1 := rfl

theorem str_ext {s t : ByteArray} (h : s.data.toList = t.data.toList) : s = t := by
  obtain ⟨⟨a⟩⟩ := s
  obtain ⟨⟨b⟩⟩ := t
  have h' : a = b := h
  rw [h']
theorem str_eq {s t : ByteArray} : s.toList = t.toList ↔ s = t := by
  rw [ByteArray.toList_eq, ByteArray.toList_eq]
  exact ⟨str_ext, fun h => by rw [h]⟩

theorem l1In_eq (a b c : Int) : spec_l1In.f a b c = some (decide (b ≤ a ∧ a ≤ c)) := by
  unfold spec_l1In.f
  by_cases h : b ≤ a <;> simp [h]

theorem within_eq (a b c : Int) : impl_within.f a b c = some (decide (b ≤ a ∧ a ≤ c)) := by
  unfold impl_within.f
  by_cases h : b ≤ a <;> simp [h]

/-- Byte i of seven is as it should be: a letter, a digit. -/
def okB (s : ByteArray) (i : Nat) : Prop := (i < 3 → 65 ≤ bt s i ∧ bt s i ≤ 90) ∧ (3 ≤ i → 48 ≤ bt s i ∧ bt s i ≤ 57)
theorem bt_bd (s : ByteArray) (i : Int) : 0 ≤ bt s i ∧ bt s i ≤ 255 := by
  unfold bt
  split
  · rename_i h
    have := (s[i.toNat]'h).toNat_lt
    omega
  · omega
theorem letters (s : ByteArray) (hs : s.size = 7) : ∀ d i : Nat, i + d = 7 → ∀ a : Int, 0 ≤ a → a ≤ 1000 * i → ∃ (b : Bool) (c : Int), Ev (fun k => spec_l2Seven.l0 k s i) b ∧ Ev (fun k => impl_checkLetter.l0 k s a 7 i) (if b = true then (c, true) else (0, false)) ∧ (b = true → Ev (fun k => spec_l2Check.l0 k s a i) c) := by
  intro d
  induction d with
  | zero =>
    intro i hi a h0 h1
    obtain rfl : i = 7 := by omega
    have e : Int.tmod a 23 = a % 23 := Int.tmod_eq_emod_of_nonneg h0
    have e1 : wrap64 (65 + a % 23) = 65 + a % 23 := w64 (by omega) (by omega)
    refine ⟨true, (65 + (a % 23) % 256) % 256, Ev.step (fun k => spec_l2Seven.l0.eq_2 ..) (Ev.neg (by omega) (Ev.now _)), Ev.step (fun k => impl_checkLetter.l0.eq_2 ..) (Ev.neg (by omega) (Ev.eq (Ev.now _) ?_)), fun _ => Ev.step (fun k => spec_l2Check.l0.eq_2 ..) (Ev.neg (by omega) (Ev.eq (Ev.now _) ?_))⟩
    · rw [e, e1, if_pos rfl]
      congr 1
      omega
    · rw [e]
  | succ d ih =>
    intro i hi a h0 h1
    have w1 : wrap64 ((i : Int) + 1) = ((i + 1 : Nat) : Int) := by rw [w64 (by omega) (by omega)]; rfl
    have w2 : wrap64 ((i : Int) + 2) = (i : Int) + 2 := w64 (by omega) (by omega)
    have hb := bt_bd s i
    have hsz : (s.size : Int) = 7 := by omega
    generalize hv : bt s i = v at hb
    have w3 : wrap64 v = v := w64 (by omega) (by omega)
    have w4 : wrap64 (v - 65) = v - 65 := w64 (by omega) (by omega)
    have w5 : wrap64 (v - 65 + 1) = v - 65 + 1 := w64 (by omega) (by omega)
    have w6 : wrap64 (v - 48) = v - 48 := w64 (by omega) (by omega)
    by_cases c3 : i < 3
    · by_cases c : 65 ≤ v ∧ v ≤ 90
      · have m1 : (v - 65) % 256 = v - 65 := by omega
        have p1 : 0 ≤ ((i : Int) + 2) * (v - 65 + 1) ∧ ((i : Int) + 2) * (v - 65 + 1) ≤ 26 * ((i : Int) + 2) := by
          have h3 : ((i : Int) + 2) * (v - 65 + 1) ≤ ((i : Int) + 2) * 26 := Int.mul_le_mul_of_nonneg_left (by omega) (by omega)
          exact ⟨Int.mul_nonneg (by omega) (by omega), by omega⟩
        have w7 : wrap64 (((i : Int) + 2) * (v - 65 + 1)) = ((i : Int) + 2) * (v - 65 + 1) := w64 (by omega) (by omega)
        have w8 : wrap64 (a + ((i : Int) + 2) * (v - 65 + 1)) = a + ((i : Int) + 2) * (v - 65 + 1) := w64 (by omega) (by omega)
        obtain ⟨b, cc, s1, s2, s3⟩ := ih (i + 1) (by omega) (a + ((i : Int) + 2) * (v - 65 + 1)) (by omega) (by omega)
        refine ⟨b, cc, Ev.step (fun k => spec_l2Seven.l0.eq_2 ..) ?_, Ev.step (fun k => impl_checkLetter.l0.eq_2 ..) ?_, fun h => Ev.step (fun k => spec_l2Check.l0.eq_2 ..) ?_⟩
        · rw [hv, w1, hsz]
          exact Ev.pos (by omega) (Ev.pos (by omega) (Ev.pos (by omega) (Ev.pos (by omega) (Ev.neg (by omega) (Ev.neg (by omega) (Ev.neg (by omega) s1))))))
        · rw [hv, hsz]
          refine Ev.pos (by omega) (Ev.pos (by omega) (Ev.pos (by omega) (Ev.pos (by omega) (Ev.pos (by omega) ?_))))
          refine Ev.step (fun k => impl_checkLetter.j1.eq_2 ..) (Ev.pos (by simp; omega) ?_)
          rw [w1, w2, m1, w7, w8]
          exact s2
        · rw [hv, hsz]
          refine Ev.pos (by omega) (Ev.pos (by omega) (Ev.pos (by omega) (Ev.pos (by omega) ?_)))
          rw [w1, w2, w3, w4, w5, Int.mul_comm (v - 65 + 1), w7, w8]
          exact s3 h
      · refine ⟨false, 0, Ev.step (fun k => spec_l2Seven.l0.eq_2 ..) ?_, Ev.step (fun k => impl_checkLetter.l0.eq_2 ..) ?_, fun h => by cases h⟩
        · rw [hv, hsz]
          refine Ev.pos (by omega) (Ev.pos (by omega) (Ev.pos (by omega) (Ev.pos (by omega) ?_)))
          exact Ev.ite (fun _ => Ev.now _) (fun q => Ev.pos (by omega) (Ev.now _))
        · rw [hv, hsz]
          refine Ev.pos (by omega) (Ev.pos (by omega) (Ev.pos (by omega) (Ev.pos (by omega) ?_)))
          have jj : Ev (fun k => impl_checkLetter.j1 k s a i v 7 i false) (0, false) := Ev.step (fun k => impl_checkLetter.j1.eq_2 ..) (Ev.neg (by simp) (Ev.neg (by omega) (Ev.now _)))
          refine Ev.ite (fun q => ?_) (fun _ => jj)
          rw [show decide (v ≤ 90) = false from by simp; omega]
          exact jj
    · by_cases c : 48 ≤ v ∧ v ≤ 57
      · have m1 : (v - 48) % 256 = v - 48 := by omega
        have p1 : 0 ≤ ((i : Int) + 2) * (v - 48) ∧ ((i : Int) + 2) * (v - 48) ≤ 9 * ((i : Int) + 2) := by
          have h3 : ((i : Int) + 2) * (v - 48) ≤ ((i : Int) + 2) * 9 := Int.mul_le_mul_of_nonneg_left (by omega) (by omega)
          exact ⟨Int.mul_nonneg (by omega) (by omega), by omega⟩
        have w7 : wrap64 (((i : Int) + 2) * (v - 48)) = ((i : Int) + 2) * (v - 48) := w64 (by omega) (by omega)
        have w8 : wrap64 (a + ((i : Int) + 2) * (v - 48)) = a + ((i : Int) + 2) * (v - 48) := w64 (by omega) (by omega)
        obtain ⟨b, cc, s1, s2, s3⟩ := ih (i + 1) (by omega) (a + ((i : Int) + 2) * (v - 48)) (by omega) (by omega)
        refine ⟨b, cc, Ev.step (fun k => spec_l2Seven.l0.eq_2 ..) ?_, Ev.step (fun k => impl_checkLetter.l0.eq_2 ..) ?_, fun h => Ev.step (fun k => spec_l2Check.l0.eq_2 ..) ?_⟩
        · rw [hv, w1, hsz]
          exact Ev.pos (by omega) (Ev.neg (by omega) (Ev.pos (by omega) (Ev.pos (by omega) (Ev.pos (by omega) (Ev.neg (by omega) (Ev.neg (by omega) s1))))))
        · rw [hv, hsz]
          refine Ev.pos (by omega) (Ev.pos (by omega) (Ev.pos (by omega) (Ev.neg (by omega) ?_)))
          refine Ev.step (fun k => impl_checkLetter.j1.eq_2 ..) (Ev.neg (by simp) (Ev.pos (by omega) (Ev.pos (by omega) (Ev.pos (by omega) ?_))))
          rw [w1, w2, m1, w7, w8]
          exact s2
        · rw [hv, hsz]
          refine Ev.pos (by omega) (Ev.pos (by omega) (Ev.pos (by omega) (Ev.neg (by omega) ?_)))
          rw [w1, w2, w3, w6, Int.mul_comm (v - 48), w7, w8]
          exact s3 h
      · refine ⟨false, 0, Ev.step (fun k => spec_l2Seven.l0.eq_2 ..) ?_, Ev.step (fun k => impl_checkLetter.l0.eq_2 ..) ?_, fun h => by cases h⟩
        · rw [hv, hsz]
          refine Ev.pos (by omega) (Ev.neg (by omega) (Ev.pos (by omega) (Ev.pos (by omega) (Ev.pos (by omega) ?_))))
          exact Ev.ite (fun _ => Ev.now _) (fun q => Ev.pos (by omega) (Ev.now _))
        · rw [hv, hsz]
          refine Ev.pos (by omega) (Ev.pos (by omega) (Ev.pos (by omega) (Ev.neg (by omega) ?_)))
          refine Ev.step (fun k => impl_checkLetter.j1.eq_2 ..) (Ev.neg (by simp) (Ev.pos (by omega) (Ev.ite (fun q => Ev.neg (by omega) (Ev.now _)) (fun _ => Ev.now _))))

/-- Is a text an identifier: the reference's test and the program's. -/
theorem ids (s : ByteArray) : ∃ b : Bool, Ev (fun k => spec_l2Id.f k s) b ∧ Ev (fun k => impl_IsValidId.f k s) b ∧ (b = true → s.size = 8) := by
  unfold spec_l2Id.f impl_IsValidId.f
  by_cases c : (s.size : Int) = 8
  · have hx : (s.extract 0 7).size = 7 := by
      rw [ByteArray.size_extract]
      omega
    obtain ⟨b, l, h1, h2, h3⟩ := letters (s.extract 0 7) hx 7 0 (by omega) 0 (by omega) (by omega)
    have g1 : Ev (fun k => spec_l2Seven.f k (s.extract 0 7)) b := by
      unfold spec_l2Seven.f
      exact Ev.pos (by omega) h1
    have g2 : Ev (fun k => impl_checkLetter.f k (s.extract 0 7)) (if b = true then (l, true) else (0, false)) := by
      unfold impl_checkLetter.f
      rw [show ((s.extract 0 7).size : Int) = 7 by omega]
      exact Ev.pos rfl h2
    cases b with
    | false => exact ⟨false, Ev.pos c (Ev.pos (by omega) (Ev.pos (by omega) (Ev.bind g1 (Ev.neg (by simp) (Ev.now _))))), Ev.pos c (Ev.pos (by omega) (Ev.pos (by omega) (Ev.bind g2 (Ev.neg (by simp) (Ev.now _))))), fun h => by cases h⟩
    | true =>
      refine ⟨bt s 7 == l, Ev.pos c (Ev.pos (by omega) (Ev.pos (by omega) (Ev.bind g1 (Ev.pos rfl (Ev.pos (by omega) (Ev.bind (a := l) ?_ (Ev.now _))))))), Ev.pos c (Ev.pos (by omega) (Ev.pos (by omega) (Ev.bind g2 (Ev.pos rfl (Ev.pos (by omega) (Ev.now _)))))), fun _ => by omega⟩
      unfold spec_l2Check.f
      exact h3 rfl
  · exact ⟨false, Ev.neg c (Ev.now _), Ev.neg c (Ev.now _), fun h => by cases h⟩
/-- Is a text an identifier? -/
noncomputable def isId (s : ByteArray) : Bool := Classical.choose (ids s)
theorem isId_spec (s : ByteArray) : Ev (fun k => spec_l2Id.f k s) (isId s) := (Classical.choose_spec (ids s)).1
theorem isId_impl (s : ByteArray) : Ev (fun k => impl_IsValidId.f k s) (isId s) := (Classical.choose_spec (ids s)).2.1
theorem isId_size (s : ByteArray) (h : isId s = true) : s.size = 8 := (Classical.choose_spec (ids s)).2.2 h

/-- Four bits: what the two ways of setting and clearing come to. -/
theorem bits_or (a b : Int) (ha : 0 ≤ a ∧ a ≤ 15) (hb : 0 ≤ b ∧ b ≤ 15) : (Go.bits .and .i64 a b = 0 → Go.bits .or .i64 a b = Go.bits .xor .i64 a b) ∧ (Go.bits .and .i64 a b = b → Go.bits .andNot .i64 a b = Go.bits .xor .i64 a b) ∧ 0 ≤ Go.bits .xor .i64 a b ∧ Go.bits .xor .i64 a b ≤ 15 := by
  have key : ∀ x : Fin 16, ∀ y : Fin 16, (Go.bits .and .i64 (x.val : Int) (y.val : Int) = 0 → Go.bits .or .i64 (x.val : Int) (y.val : Int) = Go.bits .xor .i64 (x.val : Int) (y.val : Int)) ∧
      (Go.bits .and .i64 (x.val : Int) (y.val : Int) = (y.val : Int) → Go.bits .andNot .i64 (x.val : Int) (y.val : Int) = Go.bits .xor .i64 (x.val : Int) (y.val : Int)) ∧ 0 ≤ Go.bits .xor .i64 (x.val : Int) (y.val : Int) ∧ Go.bits .xor .i64 (x.val : Int) (y.val : Int) ≤ 15 := by decide +kernel
  have := key ⟨a.toNat, by omega⟩ ⟨b.toNat, by omega⟩
  simp only [] at this
  rw [Int.toNat_of_nonneg ha.1, Int.toNat_of_nonneg hb.1] at this
  exact this

/-- The holds on a container after the first n entries. -/
def holdN (xs : List S52) : Nat → ByteArray → Int
  | 0, _ => 0
  | n + 1, s => if (rd_T52 xs n).f1 = s then Go.bits .xor .i64 (holdN xs n s) (rd_T52 xs n).f3 else holdN xs n s
theorem at_eq (xs : List S52) (hl : xs.length ≤ 1048577) (n : Nat) (hn : n ≤ xs.length) (s : ByteArray) : Ev (fun k => spec_l20At.f k xs n s) (holdN xs n s) := by
  unfold spec_l20At.f
  have main : ∀ d i : Nat, i + d = n → Ev (fun k => spec_l20At.l0 k xs n s (holdN xs i s) i) (holdN xs n s) := by
    intro d
    induction d with
    | zero =>
      intro i hi
      obtain rfl : i = n := by omega
      exact Ev.step (fun k => spec_l20At.l0.eq_2 ..) (Ev.neg (by omega) (Ev.now _))
    | succ d ih =>
      intro i hi
      have w1 : wrap64 ((i : Int) + 1) = ((i + 1 : Nat) : Int) := by rw [w64 (by omega) (by omega)]; rfl
      have := ih (i + 1) (by omega)
      refine Ev.step (fun k => spec_l20At.l0.eq_2 ..) (Ev.pos (by omega) (Ev.pos (by omega) (Ev.pos (by omega) ?_)))
      rw [w1]
      rw [show holdN xs (i + 1) s = if (rd_T52 xs i).f1 = s then Go.bits .xor .i64 (holdN xs i s) (rd_T52 xs i).f3 else holdN xs i s from rfl] at this
      by_cases c : (rd_T52 xs i).f1 = s
      · rw [if_pos c] at this
        exact Ev.pos (str_eq.2 c) this
      · rw [if_neg c] at this
        exact Ev.neg (fun h => c (str_eq.1 h)) this
  exact main n 0 (by omega)

/-- Entry i is as it should be behind those before it. -/
def vE (xs : List S52) (i : Nat) : Prop :=
  (0 ≤ (rd_T52 xs i).f0 ∧ (rd_T52 xs i).f0 ≤ 240) ∧ isId (rd_T52 xs i).f1 = true ∧ (1 ≤ (rd_T52 xs i).f3 ∧ (rd_T52 xs i).f3 ≤ 15) ∧ (0 < i → (rd_T52 xs ((i : Int) - 1)).f0 ≤ (rd_T52 xs i).f0) ∧
  ((rd_T52 xs i).f2 = true → Go.bits .and .i64 (holdN xs i (rd_T52 xs i).f1) (rd_T52 xs i).f3 = 0) ∧ ((rd_T52 xs i).f2 = false → Go.bits .and .i64 (holdN xs i (rd_T52 xs i).f1) (rd_T52 xs i).f3 = (rd_T52 xs i).f3)
/-- A file. -/
def File (xs : List S52) : Prop := xs.length ≤ 20 ∧ ∀ i, i < xs.length → vE xs i

theorem holdN_bd (xs : List S52) (n : Nat) (h : ∀ i, i < n → vE xs i) (s : ByteArray) : 0 ≤ holdN xs n s ∧ holdN xs n s ≤ 15 := by
  induction n with
  | zero => exact ⟨Int.le_refl _, by unfold holdN; omega⟩
  | succ n ih =>
    have := ih (fun i hi => h i (by omega))
    unfold holdN
    split
    · have hv := (h n (by omega)).2.2.1
      exact (bits_or _ _ this ⟨by omega, hv.2⟩).2.2
    · exact this

/-- The reference's way through a list. -/
theorem good_at (xs : List S52) (hl : xs.length ≤ 1048577) : ∀ d i : Nat, i + d = xs.length → ∃ b : Bool, Ev (fun k => spec_l20Good.l0 k xs i) b ∧ (b = true ↔ xs.length ≤ 20 ∧ ∀ j, i ≤ j → j < xs.length → vE xs j) := by
  intro d
  induction d with
  | zero =>
    intro i hi
    refine ⟨decide ((xs.length : Int) ≤ 20), Ev.step (fun k => spec_l20Good.l0.eq_2 ..) (Ev.neg (by omega) (Ev.now _)), ?_⟩
    rw [decide_eq_true_iff]
    exact ⟨fun h => ⟨by omega, fun j h1 h2 => by omega⟩, fun h => by omega⟩
  | succ d ih =>
    intro i hi
    have w1 : wrap64 ((i : Int) + 1) = ((i + 1 : Nat) : Int) := by rw [w64 (by omega) (by omega)]; rfl
    have l1 : (i : Int) < (xs.length : Int) := by omega
    have l2 : 0 ≤ (i : Int) := by omega
    have w2 : 0 < i → wrap64 ((i : Int) - 1) = (i : Int) - 1 := fun h => w64 (by omega) (by omega)
    have l3 : 0 < i → 0 ≤ (i : Int) - 1 := fun h => by omega
    have l4 : (i : Int) - 1 < (xs.length : Int) := by omega
    obtain ⟨b, s1, s3⟩ := ih (i + 1) (by omega)
    have jt : ∀ x y z v, Ev (fun k => spec_l20Good.j1 k xs i true x y z v) false := fun x y z v => Ev.step (fun k => spec_l20Good.j1.eq_2 ..) (Ev.pos rfl (Ev.now _))
    have no : ∀ h : ¬ vE xs i, ((false : Bool) = true ↔ xs.length ≤ 20 ∧ ∀ j, i ≤ j → j < xs.length → vE xs j) := fun h => ⟨(fun q => by cases q), fun h' => absurd (h'.2 i (by omega) (by omega)) h⟩
    have sp : ∀ r, Ev _ r → Ev (fun k => spec_l20Good.l0 k xs i) r := fun r hr => Ev.step (fun k => spec_l20Good.l0.eq_2 ..) (Ev.pos l1 (Ev.pos l2 (Ev.const (l1In_eq _ _ _) hr)))
    by_cases c1 : 0 ≤ (rd_T52 xs i).f0 ∧ (rd_T52 xs i).f0 ≤ 240
    · by_cases c2 : isId (rd_T52 xs i).f1 = true
      · by_cases c3 : 1 ≤ (rd_T52 xs i).f3 ∧ (rd_T52 xs i).f3 ≤ 15
        · have sp2 : ∀ r, Ev _ r → Ev (fun k => spec_l20Good.l0 k xs i) r := fun r hr => sp r (Ev.pos (by simp [c1]) (Ev.bind (isId_spec _) (Ev.pos c2 (Ev.const (l1In_eq _ _ _) (Ev.pos (by simp [c3]) hr)))))
          by_cases c4 : 0 < i → (rd_T52 xs ((i : Int) - 1)).f0 ≤ (rd_T52 xs i).f0
          · have sp3 : ∀ r, Ev (fun k => spec_l20Good.j1 k xs i false (rd_T52 xs i).f0 (rd_T52 xs i).f1 (rd_T52 xs i).f2 (rd_T52 xs i).f3) r → Ev (fun k => spec_l20Good.l0 k xs i) r := by
              intro r hr
              refine sp2 r (Ev.ite (fun hp => ?_) (fun _ => hr))
              have hp' : 0 < i := by omega
              rw [w2 hp']
              refine Ev.pos (l3 hp') (Ev.pos l4 ?_)
              rw [show decide ((rd_T52 xs ((i : Int) - 1)).f0 > (rd_T52 xs i).f0) = false from by have := c4 hp'; simp; omega]
              exact hr
            have fin : ∀ h : vE xs i, (b = true ↔ xs.length ≤ 20 ∧ ∀ j, i ≤ j → j < xs.length → vE xs j) := by
              intro h
              rw [s3]
              refine ⟨fun q => ⟨q.1, fun j h1 h2 => ?_⟩, fun q => ⟨q.1, fun j h1 h2 => q.2 j (by omega) h2⟩⟩
              rcases Nat.lt_or_ge i j with hj | hj
              · exact q.2 j hj h2
              · obtain rfl : j = i := by omega
                exact h
            rw [← w1] at s1
            have j1 : ∀ r, Ev _ r → Ev (fun k => spec_l20Good.j1 k xs i false (rd_T52 xs i).f0 (rd_T52 xs i).f1 (rd_T52 xs i).f2 (rd_T52 xs i).f3) r := fun r hr => Ev.step (fun k => spec_l20Good.j1.eq_2 ..) (Ev.neg (by simp) (Ev.bind (at_eq xs hl i (by omega) _) hr))
            cases hp : (rd_T52 xs i).f2 with
            | true =>
              rw [hp] at sp3 j1
              by_cases c5 : Go.bits .and .i64 (holdN xs i (rd_T52 xs i).f1) (rd_T52 xs i).f3 = 0
              · exact ⟨b, sp3 _ (j1 _ (Ev.pos rfl (Ev.pos c5 s1))), fin ⟨c1, c2, c3, c4, fun _ => c5, (fun h => by rw [hp] at h; cases h)⟩⟩
              · exact ⟨false, sp3 _ (j1 _ (Ev.pos rfl (Ev.neg c5 (Ev.now _)))), no (fun h => c5 (h.2.2.2.2.1 hp))⟩
            | false =>
              rw [hp] at sp3 j1
              by_cases c5 : Go.bits .and .i64 (holdN xs i (rd_T52 xs i).f1) (rd_T52 xs i).f3 = (rd_T52 xs i).f3
              · exact ⟨b, sp3 _ (j1 _ (Ev.neg (by simp) (Ev.pos c5 s1))), fin ⟨c1, c2, c3, c4, (fun h => by rw [hp] at h; cases h), fun _ => c5⟩⟩
              · exact ⟨false, sp3 _ (j1 _ (Ev.neg (by simp) (Ev.neg c5 (Ev.now _)))), no (fun h => c5 (h.2.2.2.2.2 hp))⟩
          · have hi0 : 0 < i := by
              rcases Nat.eq_zero_or_pos i with h | h
              · exact absurd (fun h' => by omega) c4
              · exact h
            have c5 : (rd_T52 xs i).f0 < (rd_T52 xs ((i : Int) - 1)).f0 := by
              rcases Int.lt_or_le (rd_T52 xs i).f0 (rd_T52 xs ((i : Int) - 1)).f0 with h | h
              · exact h
              · exact absurd (fun _ => h) c4
            refine ⟨false, sp2 _ (Ev.pos (by omega) ?_), no (fun h => c4 h.2.2.2.1)⟩
            rw [w2 hi0]
            refine Ev.pos (l3 hi0) (Ev.pos l4 ?_)
            rw [show decide ((rd_T52 xs ((i : Int) - 1)).f0 > (rd_T52 xs i).f0) = true from by simp; omega]
            exact jt _ _ _ _
        · exact ⟨false, sp _ (Ev.pos (by simp [c1]) (Ev.bind (isId_spec _) (Ev.pos c2 (Ev.const (l1In_eq _ _ _) (Ev.neg (by simp; omega) (jt _ _ _ _)))))), no (fun h => c3 h.2.2.1)⟩
      · exact ⟨false, sp _ (Ev.pos (by simp [c1]) (Ev.bind (isId_spec _) (Ev.neg c2 (jt _ _ _ _)))), no (fun h => c2 h.2.1)⟩
    · exact ⟨false, sp _ (Ev.neg (by simp; omega) (jt _ _ _ _)), no (fun h => c1 h.1)⟩

/-- The program's way: the first entry that is not as it should be, or the twenty-first. -/
theorem conflict_at (xs : List S52) (hl : xs.length ≤ 1048577) : ∀ d i : Nat, i + d = xs.length → i ≤ 20 → (∀ j, j < i → vE xs j) → ∃ c : Nat, c ≤ xs.length ∧ c ≤ 20 ∧ i ≤ c ∧ Ev (fun k => impl_conflictIn.l0 k xs (holdN xs i) xs xs.length i) (c : Int) ∧
    (∀ j, j < c → vE xs j) ∧ (c < xs.length → c = 20 ∨ ¬ vE xs c) := by
  intro d
  induction d with
  | zero =>
    intro i hi h20 hv
    exact ⟨i, by omega, h20, Nat.le_refl _, Ev.step (fun k => impl_conflictIn.l0.eq_2 ..) (Ev.neg (by omega) (Ev.eq (Ev.now _) (by omega))), hv, fun h => by omega⟩
  | succ d ih =>
    intro i hi h20 hv
    have w1 : wrap64 ((i : Int) + 1) = ((i + 1 : Nat) : Int) := by rw [w64 (by omega) (by omega)]; rfl
    have l1 : (i : Int) < (xs.length : Int) := by omega
    have l2 : 0 ≤ (i : Int) := by omega
    have w2 : 0 < i → wrap64 ((i : Int) - 1) = (i : Int) - 1 := fun h => w64 (by omega) (by omega)
    have l3 : 0 < i → 0 ≤ (i : Int) - 1 := fun h => by omega
    have l4 : (i : Int) - 1 < (xs.length : Int) := by omega
    have jt : ∀ x y z v, Ev (fun k => impl_conflictIn.j1 k xs (holdN xs i) i xs xs.length i true x y z v) (i : Int) := fun x y z v => Ev.step (fun k => impl_conflictIn.j1.eq_2 ..) (Ev.pos rfl (Ev.now _))
    have im : ∀ r, Ev _ r → Ev (fun k => impl_conflictIn.l0 k xs (holdN xs i) xs xs.length i) r := fun r hr => Ev.step (fun k => impl_conflictIn.l0.eq_2 ..) (Ev.pos l1 (Ev.pos l2 (Ev.pos l1 hr)))
    by_cases c0 : i = 20
    · exact ⟨i, by omega, h20, Nat.le_refl _, im _ (Ev.pos (by omega) (jt _ _ _ _)), hv, fun _ => .inl c0⟩
    · have im0 : ∀ r, Ev _ r → Ev (fun k => impl_conflictIn.l0 k xs (holdN xs i) xs xs.length i) r := fun r hr => im r (Ev.neg (by omega) (Ev.const (within_eq _ _ _) hr))
      have no : ∀ h : ¬ vE xs i, Ev (fun k => impl_conflictIn.l0 k xs (holdN xs i) xs xs.length i) (i : Int) → ∃ c : Nat, c ≤ xs.length ∧ c ≤ 20 ∧ i ≤ c ∧ Ev (fun k => impl_conflictIn.l0 k xs (holdN xs i) xs xs.length i) (c : Int) ∧ (∀ j, j < c → vE xs j) ∧ (c < xs.length → c = 20 ∨ ¬ vE xs c) :=
        fun h e => ⟨i, by omega, h20, Nat.le_refl _, e, hv, fun _ => .inr h⟩
      by_cases c1 : 0 ≤ (rd_T52 xs i).f0 ∧ (rd_T52 xs i).f0 ≤ 240
      · by_cases c4 : 0 < i → (rd_T52 xs ((i : Int) - 1)).f0 ≤ (rd_T52 xs i).f0
        · have im1 : ∀ r, Ev (fun k => (impl_IsValidId.f k (rd_T52 xs i).f1).bind fun t109 => if t109 = true then (impl_within.f (rd_T52 xs i).f3 1 15).bind fun t110 => impl_conflictIn.j1 k xs (holdN xs i) i xs xs.length i (!t110) (rd_T52 xs i).f0 (rd_T52 xs i).f1 (rd_T52 xs i).f2 (rd_T52 xs i).f3
              else impl_conflictIn.j1 k xs (holdN xs i) i xs xs.length i true (rd_T52 xs i).f0 (rd_T52 xs i).f1 (rd_T52 xs i).f2 (rd_T52 xs i).f3) r → Ev (fun k => impl_conflictIn.l0 k xs (holdN xs i) xs xs.length i) r := by
            intro r hr
            refine im0 r (Ev.pos (by simp [c1]) (Ev.ite (fun hp => ?_) (fun _ => hr)))
            have hp' : 0 < i := by omega
            rw [w2 hp']
            have := c4 hp'
            exact Ev.pos (l3 hp') (Ev.pos l4 (Ev.neg (Int.not_lt.2 this) hr))
          by_cases c2 : isId (rd_T52 xs i).f1 = true
          · by_cases c3 : 1 ≤ (rd_T52 xs i).f3 ∧ (rd_T52 xs i).f3 ≤ 15
            · have sz : (rd_T52 xs i).f1.size ≤ 9223372036854775807 := by have := isId_size _ c2; omega
              have bd := holdN_bd xs i hv (rd_T52 xs i).f1
              obtain ⟨b1, b2, b3⟩ := bits_or _ _ bd ⟨by omega, c3.2⟩
              have im2 : ∀ r, Ev _ r → Ev (fun k => impl_conflictIn.l0 k xs (holdN xs i) xs xs.length i) r := fun r hr => im1 r (Ev.bind (isId_impl _) (Ev.pos c2 (Ev.const (within_eq _ _ _) (Ev.step (fun k => impl_conflictIn.j1.eq_2 ..) (Ev.neg (by simp [c3]) (Ev.const (a := holdN xs i (rd_T52 xs i).f1) (by unfold mlook.f; rw [if_pos sz]) hr))))))
              have stepm : (fun x => if x = (rd_T52 xs i).f1 then Go.bits .xor .i64 (holdN xs i (rd_T52 xs i).f1) (rd_T52 xs i).f3 else holdN xs i x) = holdN xs (i + 1) := by
                funext x
                show _ = if (rd_T52 xs i).f1 = x then Go.bits .xor .i64 (holdN xs i x) (rd_T52 xs i).f3 else holdN xs i x
                by_cases q : x = (rd_T52 xs i).f1
                · rw [if_pos q, if_pos q.symm, q]
                · rw [if_neg q, if_neg (fun h => q h.symm)]
              have put : mput.f (holdN xs i) (rd_T52 xs i).f1 (Go.bits .xor .i64 (holdN xs i (rd_T52 xs i).f1) (rd_T52 xs i).f3) = some (holdN xs (i + 1)) := by
                unfold mput.f
                rw [if_pos ⟨sz, by omega, by omega⟩, stepm]
              have go : ∀ h : vE xs i, ∃ c : Nat, c ≤ xs.length ∧ c ≤ 20 ∧ i ≤ c ∧ Ev (fun k => impl_conflictIn.l0 k xs (holdN xs (i + 1)) xs xs.length ((i + 1 : Nat) : Int)) (c : Int) ∧ (∀ j, j < c → vE xs j) ∧ (c < xs.length → c = 20 ∨ ¬ vE xs c) := by
                intro h
                obtain ⟨c, q1, q2, q3, q4, q5, q6⟩ := ih (i + 1) (by omega) (by omega) (fun j hj => by
                  rcases Nat.lt_or_ge j i with hj' | hj'
                  · exact hv j hj'
                  · obtain rfl : j = i := by omega
                    exact h)
                exact ⟨c, q1, q2, by omega, q4, q5, q6⟩
              cases hp : (rd_T52 xs i).f2 with
              | true =>
                rw [hp] at im2
                by_cases c5 : Go.bits .and .i64 (holdN xs i (rd_T52 xs i).f1) (rd_T52 xs i).f3 = 0
                · obtain ⟨c, q1, q2, q3, q4, q5, q6⟩ := go ⟨c1, c2, c3, c4, fun _ => c5, (fun h => by rw [hp] at h; cases h)⟩
                  rw [← w1] at q4
                  refine ⟨c, q1, q2, q3, im2 _ (Ev.pos rfl (Ev.pos c5 ?_)), q5, q6⟩
                  rw [b1 c5]
                  exact Ev.const put q4
                · exact no (fun h => c5 (h.2.2.2.2.1 hp)) (im2 _ (Ev.pos rfl (Ev.neg c5 (Ev.now _))))
              | false =>
                rw [hp] at im2
                by_cases c5 : Go.bits .and .i64 (holdN xs i (rd_T52 xs i).f1) (rd_T52 xs i).f3 = (rd_T52 xs i).f3
                · obtain ⟨c, q1, q2, q3, q4, q5, q6⟩ := go ⟨c1, c2, c3, c4, (fun h => by rw [hp] at h; cases h), fun _ => c5⟩
                  rw [← w1] at q4
                  refine ⟨c, q1, q2, q3, im2 _ (Ev.neg (by simp) (Ev.pos c5 ?_)), q5, q6⟩
                  rw [b2 c5]
                  exact Ev.const put q4
                · exact no (fun h => c5 (h.2.2.2.2.2 hp)) (im2 _ (Ev.neg (by simp) (Ev.neg c5 (Ev.now _))))
            · refine no (fun h => c3 h.2.2.1) (im1 _ (Ev.bind (isId_impl _) (Ev.pos c2 (Ev.const (within_eq _ _ _) ?_))))
              rw [show (!decide (1 ≤ (rd_T52 xs i).f3 ∧ (rd_T52 xs i).f3 ≤ 15)) = true from by simp; omega]
              exact jt _ _ _ _
          · exact no (fun h => c2 h.2.1) (im1 _ (Ev.bind (isId_impl _) (Ev.neg c2 (jt _ _ _ _))))
        · have hi0 : 0 < i := by
            rcases Nat.eq_zero_or_pos i with h | h
            · exact absurd (fun h' => by omega) c4
            · exact h
          have c5 : (rd_T52 xs i).f0 < (rd_T52 xs ((i : Int) - 1)).f0 := by
            rcases Int.lt_or_le (rd_T52 xs i).f0 (rd_T52 xs ((i : Int) - 1)).f0 with h | h
            · exact h
            · exact absurd (fun _ => h) c4
          refine no (fun h => c4 h.2.2.2.1) (im0 _ (Ev.pos (by simp [c1]) (Ev.pos (by omega) ?_)))
          rw [w2 hi0]
          exact Ev.pos (l3 hi0) (Ev.pos l4 (Ev.pos c5 (jt _ _ _ _)))
      · exact no (fun h => c1 h.1) (im0 _ (Ev.neg (by simp; omega) (jt _ _ _ _)))

theorem conflict (xs : List S52) (hl : xs.length ≤ 1048577) : ∃ c : Nat, c ≤ xs.length ∧ c ≤ 20 ∧ Ev (fun k => impl_conflictIn.f k xs) (c : Int) ∧ (∀ j, j < c → vE xs j) ∧ (c < xs.length → c = 20 ∨ ¬ vE xs c) := by
  obtain ⟨c, q1, q2, _, q4, q5, q6⟩ := conflict_at xs hl xs.length 0 (by omega) (by omega) (fun j hj => by omega)
  refine ⟨c, q1, q2, ?_, q5, q6⟩
  unfold impl_conflictIn.f
  exact q4
/-- The reference's test. -/
theorem goods (xs : List S52) (hl : xs.length ≤ 1048577) : ∃ b : Bool, Ev (fun k => spec_l20Good.f k xs) b ∧ (b = true ↔ File xs) := by
  obtain ⟨b, h1, h3⟩ := good_at xs hl xs.length 0 (by omega)
  exact ⟨b, by unfold spec_l20Good.f; exact h1, h3.trans ⟨fun h => ⟨h.1, fun i hi => h.2 i (by omega) hi⟩, fun h => ⟨h.1, fun j _ hj => h.2 j hj⟩⟩⟩

theorem holdN_congr (xs ys : List S52) (n : Nat) (h : ∀ j : Nat, j < n → rd_T52 ys j = rd_T52 xs j) (s : ByteArray) : holdN ys n s = holdN xs n s := by
  induction n with
  | zero => rfl
  | succ n ih =>
    unfold holdN
    rw [h n (by omega), ih (fun j hj => h j (by omega))]
theorem vE_congr (xs ys : List S52) (i : Nat) (h : ∀ j : Nat, j ≤ i → rd_T52 ys j = rd_T52 xs j) : vE ys i ↔ vE xs i := by
  unfold vE
  rw [h i (Nat.le_refl _), holdN_congr xs ys i (fun j hj => h j (by omega))]
  rcases Nat.eq_zero_or_pos i with rfl | hi
  · simp
  · rw [show ((i : Int) - 1) = ((i - 1 : Nat) : Int) by omega, h (i - 1) (by omega)]
theorem rd_take (xs : List S52) (m j : Nat) (h : j < m) : rd_T52 (xs.take m) (j : Int) = rd_T52 xs j := by
  unfold rd_T52
  rw [Int.toNat_natCast, List.getD_eq_getElem?_getD, List.getD_eq_getElem?_getD, List.getElem?_take, if_pos h]
theorem rd_snoc (xs : List S52) (e : S52) (j : Nat) (h : j < xs.length) : rd_T52 (xs ++ [e]) (j : Int) = rd_T52 xs j := by
  unfold rd_T52
  rw [Int.toNat_natCast, List.getD_eq_getElem?_getD, List.getD_eq_getElem?_getD, List.getElem?_append_left h]
theorem file_take (xs : List S52) (m : Nat) (hm : m ≤ xs.length) : File (xs.take m) ↔ m ≤ 20 ∧ ∀ i, i < m → vE xs i := by
  unfold File
  rw [List.length_take, Nat.min_eq_left hm]
  exact ⟨fun h => ⟨h.1, fun i hi => (vE_congr _ _ i (fun j hj => rd_take xs m j (by omega))).1 (h.2 i hi)⟩, fun h => ⟨h.1, fun i hi => (vE_congr _ _ i (fun j hj => rd_take xs m j (by omega))).2 (h.2 i hi)⟩⟩
theorem file_snoc (xs : List S52) (e : S52) (h : File (xs ++ [e])) : File xs := by
  obtain ⟨h1, h2⟩ := h
  rw [List.length_append, List.length_singleton] at h1 h2
  exact ⟨by omega, fun i hi => (vE_congr _ _ i (fun j hj => rd_snoc xs e j (by omega))).1 (h2 i (by omega))⟩
theorem rise_hours (xs : List S52) (hv : ∀ i, i < xs.length → vE xs i) (i j : Nat) (hij : i ≤ j) (hj : j < xs.length) : (rd_T52 xs i).f0 ≤ (rd_T52 xs j).f0 := by
  induction j with
  | zero =>
    obtain rfl : i = 0 := by omega
    omega
  | succ j ih =>
    rcases Nat.lt_or_ge j i with h | h
    · obtain rfl : i = j + 1 := by omega
      omega
    · have := ih h (by omega)
      have h3 := (hv (j + 1) hj).2.2.2.1 (by omega)
      rw [show (((j + 1 : Nat) : Int) - 1) = (j : Int) by omega] at h3
      omega

/-- How far the drawing of a file is. -/
def FarE (m a : Int) (r : List S52 × Int × Int) : Prop := r.1.length ≤ 30 ∧ a ≤ r.2.1 ∧ r.2.1 ≤ a + m
theorem draw_id20 {c : List Int} (hc : Bytes c) {a : Int} (s : Int) (h0 : 0 ≤ a) (h1 : a ≤ 2305843009213693952) : Has (fun k => spec_l1Cur_id20.f k c a s) (fun r => a ≤ r.2.1 ∧ r.2.1 ≤ a + 2) := by
  unfold spec_l1Cur_id20.f
  refine Has.bind (drawOf hc s _ (by simp) h0 h1) fun r ⟨r0, r1, r2⟩ => ?_
  have sz : r.1.size = 7 := by
    simp only [List.mem_cons, List.not_mem_nil, or_false] at r0
    rcases r0 with h | h | h <;> rw [h] <;> rfl
  refine Has.bind (check7 r.1 (by omega)) fun t _ => Has.val (Has.pos (by rw [strOne]; omega) (Has.now ⟨r1, r2⟩))
theorem draw_file_more {c : List Int} (hc : Bytes c) (x8 m a s f0 : Int) (f1 : ByteArray) (f2 : Bool) (f3 : Int) (h8 : 0 ≤ x8) (hm : m ≤ 22) : ∀ (d : Nat) (xs : List S52), 22 ≤ xs.length + d → x8 < xs.length → xs.length ≤ 30 →
    Has (fun k => spec_l1Cur_file.l1 k xs x8 m c a s f0 f1 f2 f3) (FarE 0 a) := by
  intro d
  induction d with
  | zero =>
    intro xs hl hx h30
    exact Has.step (fun k => spec_l1Cur_file.l1.eq_2 ..) (Has.neg (by omega) (Has.pos h8 (Has.pos hx (Has.now ⟨by simp only [List.length_set]; omega, by simp only; omega, by simp only; omega⟩))))
  | succ d ih =>
    intro xs hl hx h30
    refine Has.step (fun k => spec_l1Cur_file.l1.eq_2 ..) (Has.ite (fun q => ?_) (fun _ => ?_))
    · refine Has.bind (check7 _ (by decide)) fun t _ => Has.val (Has.pos (by rw [strOne]; omega) (Has.pos (by omega) (ih _ ?_ ?_ ?_)))
      · rw [List.length_append, List.length_singleton]
        omega
      · rw [List.length_append, List.length_singleton]
        omega
      · rw [List.length_append, List.length_singleton]
        omega
    · exact Has.pos h8 (Has.pos hx (Has.now ⟨by simp only [List.length_set]; omega, by simp only; omega, by simp only; omega⟩))
theorem draw_file_j2 {c : List Int} (hc : Bytes c) (xs : List S52) (x8 a s f0 : Int) (f1 : ByteArray) (f2 : Bool) (f3 : Int) (h8 : 0 ≤ x8) (hx : x8 < xs.length) (h30 : xs.length ≤ 30) (h0 : 0 ≤ a) (h1 : a ≤ 1000000000000000000) :
    Has (fun k => spec_l1Cur_file.j2 k xs x8 c a s f0 f1 f2 f3) (FarE 2 a) := by
  refine Has.step (fun k => spec_l1Cur_file.j2.eq_2 ..) (Has.bind (pick hc s 2 h0 (by omega)) fun r ⟨r0, r1, _, r3, r4⟩ => ?_)
  have r5 := r1 (by omega)
  rw [show wrap64 (20 + r.1) = 20 + r.1 from w64 (by omega) (by omega)]
  exact Has.mono (draw_file_more hc x8 (20 + r.1) r.2.1 r.2.2 f0 f1 f2 f3 h8 (by omega) 22 xs (by omega) hx h30) fun b hb => ⟨hb.1, by have := hb.2; omega, by have := hb.2; omega⟩
theorem draw_file_at {c : List Int} (hc : Bytes c) : ∀ (n : Nat) (xs : List S52) (hour a s : Int), xs.length + n ≤ 10 → 0 ≤ a → a ≤ 100000000000000000 - 20 * n →
    Has (fun k => spec_l1Cur_file.l0 k xs hour n c a s) (FarE (20 * n + 20) a) := by
  intro n
  induction n with
  | zero =>
    intro xs hour a s hl h0 h1
    refine Has.step (fun k => spec_l1Cur_file.l0.eq_2 ..) (Has.neg (by omega) (Has.ite (fun _ => Has.now ⟨by simp only; omega, by simp only; omega, by simp only; omega⟩) (fun hz => ?_)))
    refine Has.bind (pick hc s _ h0 (by omega)) fun i ⟨i0, i1, i2, i3, i4⟩ => ?_
    have i5 : i.1 < (xs.length : Int) := by
      rcases Int.lt_or_le 1 (xs.length : Int) with h | h
      · exact i1 h
      · have := i2 h
        omega
    refine Has.pos i0 (Has.pos i5 (Has.bind (pick hc i.2.2 40 (by omega) (by omega)) fun r ⟨r0, r1, _, r3, r4⟩ => ?_))
    refine Has.ite (fun _ => ?_) (fun _ => Has.ite (fun _ => ?_) (fun _ => Has.ite (fun _ => ?_) (fun _ => Has.ite (fun _ => ?_) (fun _ => Has.ite (fun _ => ?_) (fun _ => ?_)))))
    · exact Has.bind (among hc r.2.2 _ (by simp) (by omega) (by omega)) fun q ⟨_, q1, q2⟩ => Has.now ⟨by simp only [List.length_set]; omega, by simp only; omega, by simp only; omega⟩
    · exact Has.bind (drawOf hc r.2.2 _ (by simp) (by omega) (by omega)) fun q ⟨_, q1, q2⟩ => Has.now ⟨by simp only [List.length_set]; omega, by simp only; omega, by simp only; omega⟩
    · exact Has.bind (among hc r.2.2 _ (by simp) (by omega) (by omega)) fun q ⟨_, q1, q2⟩ => Has.now ⟨by simp only [List.length_set]; omega, by simp only; omega, by simp only; omega⟩
    · exact Has.now ⟨by simp only [List.length_set]; omega, by simp only; omega, by simp only; omega⟩
    · refine Has.ite (fun _ => Has.pos (by omega) (Has.bind (draw_id20 hc r.2.2 (by omega) (by omega)) fun q ⟨q1, q2⟩ => ?_)) (fun _ => ?_)
      · exact Has.mono (draw_file_j2 hc _ 0 q.2.1 q.2.2 _ _ _ _ (by omega) (by simp) (by simp) (by omega) (by omega)) fun b hb => ⟨hb.1, by have := hb.2; omega, by have := hb.2; omega⟩
      · exact Has.mono (draw_file_j2 hc xs i.1 r.2.1 r.2.2 _ _ _ _ i0 i5 (by omega) (by omega) (by omega)) fun b hb => ⟨hb.1, by have := hb.2; omega, by have := hb.2; omega⟩
    · exact Has.now ⟨by simp only [List.length_set]; omega, by simp only; omega, by simp only; omega⟩
  | succ n ih =>
    intro xs hour a s hl h0 h1
    have w1 : wrap64 (((n + 1 : Nat) : Int) - 1) = (n : Int) := by rw [w64 (by omega) (by omega)]; omega
    have fin : ∀ (b : Int) (t h : Int) (g0 : Int) (g1 : ByteArray) (g2 z : Bool) (g3 : Int), a ≤ b → b ≤ a + 6 → Has (fun k => spec_l1Cur_file.j1 k xs hour ((n + 1 : Nat) : Int) h z c b t g0 g1 g2 g3) (FarE (20 * (n + 1 : Nat) + 20) a) := by
      intro b t h g0 g1 g2 z g3 hb hb2
      refine Has.step (fun k => spec_l1Cur_file.j1.eq_2 ..) ?_
      rw [w1]
      refine Has.ite (fun _ => Has.ite (fun _ => Has.pos (by omega) ?_) (fun _ => ?_)) (fun _ => Has.ite (fun _ => Has.pos (by omega) ?_) (fun _ => ?_))
      all_goals
        refine Has.bind (among hc t _ (by simp) (by omega) (by omega)) fun q ⟨_, q1, q2⟩ => ?_
        exact Has.mono (ih _ _ q.2.1 q.2.2 (by first | omega | (rw [List.length_append, List.length_singleton]; omega)) (by omega) (by omega)) fun b hb => ⟨hb.1, by have := hb.2; omega, by have := hb.2; omega⟩
    refine Has.step (fun k => spec_l1Cur_file.l0.eq_2 ..) (Has.pos (by omega) (Has.bind (draw_id20 hc s h0 (by omega)) fun u ⟨u1, u2⟩ => Has.bind (pick hc u.2.2 15 (by omega) (by omega)) fun v ⟨_, _, _, v3, v4⟩ => ?_))
    refine Has.ev (at_eq xs (by omega) xs.length (Nat.le_refl _) u.1) (Has.ite (fun _ => fin _ _ _ _ _ _ _ _ (by omega) (by omega)) (fun _ => ?_))
    exact Has.bind (one hc v.2.2 2 (by omega) (by omega)) fun w ⟨w2, w3⟩ => fin _ _ _ _ _ _ _ _ (by omega) (by omega)
theorem draw_file {c : List Int} (hc : Bytes c) {a : Int} (s : Int) (h0 : 0 ≤ a) (h1 : a ≤ 10000000000000000) : Has (fun k => spec_l1Cur_file.f k c a s) (FarE 300 a) := by
  unfold spec_l1Cur_file.f
  refine Has.bind (pick hc s 4 h0 (by omega)) fun q ⟨_, _, _, q3, q4⟩ => ?_
  refine Has.bind (pick hc q.2.2 10 (by omega) (by omega)) fun r ⟨r0, r1, _, r3, r4⟩ => ?_
  have r5 := r1 (by omega)
  rw [show r.1 = ((r.1.toNat : Nat) : Int) by omega]
  exact Has.mono (draw_file_at hc r.1.toNat [] _ r.2.1 r.2.2 (by simp; omega) (by omega) (by omega)) fun b hb => ⟨hb.1, by have := hb.2; omega, by have := hb.2; omega⟩
theorem draw_hour20 {c : List Int} (hc : Bytes c) {a : Int} (s : Int) (h0 : 0 ≤ a) (h1 : a ≤ 10000000000000000) : Has (fun _ => spec_l1Cur_hour20.f c a s) (fun r => a ≤ r.2.1 ∧ r.2.1 ≤ a + 4) := by
  unfold spec_l1Cur_hour20.f
  exact Has.val (amongCut hc s _ 7 (by omega) (by simp) (by simp) h0 (by omega) fun r _ r1 r2 => Has.now ⟨r1, r2⟩)
theorem draw_anyId20 {c : List Int} (hc : Bytes c) {a : Int} (s : Int) (h0 : 0 ≤ a) (h1 : a ≤ 10000000000000000) : Has (fun k => spec_l1Cur_anyId20.f k c a s) (fun r => a ≤ r.2.1 ∧ r.2.1 ≤ a + 4) := by
  unfold spec_l1Cur_anyId20.f
  refine Has.bind (one hc s 16 h0 (by omega)) fun q ⟨q1, q2⟩ => Has.ite (fun _ => ?_) (fun _ => ?_)
  · exact Has.bind (drawOf hc q.2.2 _ (by simp) (by omega) (by omega)) fun r ⟨_, r1, r2⟩ => Has.now ⟨by simp only; omega, by simp only; omega⟩
  · exact Has.bind (draw_id20 hc q.2.2 (by omega) (by omega)) fun r ⟨r1, r2⟩ => Has.now ⟨by simp only; omega, by simp only; omega⟩


/-- The reference's test and the program's. -/
theorem files (xs : List S52) (hl : xs.length ≤ 1048577) : ∃ b : Bool, Ev (fun k => spec_l20Good.f k xs) b ∧ Ev (fun k => impl_IsValidFile.f k xs) b ∧ (b = true ↔ File xs) := by
  obtain ⟨b, h1, h3'⟩ := goods xs hl
  obtain ⟨c, q1, q2, q4, q5, q6⟩ := conflict xs hl
  refine ⟨b, h1, ?_, h3'⟩
  unfold impl_IsValidFile.f
  refine Ev.bind q4 (Ev.eq (Ev.now _) ?_)
  rcases Nat.lt_or_ge c xs.length with h | h
  · have hb : b = false := by
      cases hb : b with
      | false => rfl
      | true =>
        have := h3'.1 hb
        rcases q6 h with rfl | q
        · have := this.1
          omega
        · exact absurd (this.2 c h) q
    rw [hb]
    simp
    omega
  · obtain rfl : c = xs.length := by omega
    have hb : b = true := h3'.2 ⟨q2, q5⟩
    rw [hb]
    simp

theorem implAdd (xs : List S52) (hl : xs.length ≤ 1048576) (a : Int) (s : ByteArray) (p : Bool) (h : Int) : ∃ b : Bool, Ev (fun k => spec_l20Good.f k (xs ++ [(⟨a, s, p, h⟩ : S52)])) b ∧ (b = true ↔ File (xs ++ [(⟨a, s, p, h⟩ : S52)])) ∧
    Ev (fun k => impl_AddEntry.f k xs a s p h) (if b = true then (xs ++ [(⟨a, s, p, h⟩ : S52)], true) else ([], false)) := by
  obtain ⟨b, h1, h2, h3⟩ := files (xs ++ [(⟨a, s, p, h⟩ : S52)]) (by simp; omega)
  refine ⟨b, h1, h3, ?_⟩
  unfold impl_AddEntry.f slices_Clone_impl_Entry.f
  refine Ev.const (a := xs) (by simp; omega) (Ev.some (Ev.pos (by simp; omega) (Ev.some (Ev.bind h2 ?_))))
  cases b with
  | true => exact Ev.pos rfl (Ev.now _)
  | false => exact Ev.neg (by simp) (Ev.now _)


/-- A file, an Id and an hour. -/
theorem fileAt (xs : List S52) (hl : xs.length ≤ 1048577) (s : ByteArray) (hour : Int) : ∃ b : Bool, Ev (fun k => impl_isFileAt.f k xs s hour) b ∧ (b = true ↔ File xs ∧ isId s = true ∧ (0 ≤ hour ∧ hour ≤ 240)) := by
  obtain ⟨b, h1, h2, h3⟩ := files xs hl
  unfold impl_isFileAt.f
  by_cases hb : b = true
  · subst hb
    by_cases c1 : isId s = true
    · by_cases c2 : 0 ≤ hour ∧ hour ≤ 240
      · exact ⟨true, Ev.bind h2 (Ev.pos rfl (Ev.bind (isId_impl s) (Ev.pos c1 (Ev.const (within_eq _ _ _) (Ev.eq (Ev.now _) (by simp [c2])))))), fun _ => ⟨h3.1 rfl, c1, c2⟩, fun _ => rfl⟩
      · exact ⟨false, Ev.bind h2 (Ev.pos rfl (Ev.bind (isId_impl s) (Ev.pos c1 (Ev.const (within_eq _ _ _) (Ev.eq (Ev.now _) (by simp; omega)))))), (fun h => by cases h), fun h => absurd h.2.2 c2⟩
    · exact ⟨false, Ev.bind h2 (Ev.pos rfl (Ev.bind (isId_impl s) (Ev.neg c1 (Ev.now _)))), (fun h => by cases h), fun h => absurd h.2.1 c1⟩
  · exact ⟨false, Ev.bind h2 (Ev.neg hb (Ev.now _)), (fun h => by cases h), fun h => absurd (h3.2 h.1) hb⟩


/-- How many entries have an hour of at most so much. -/
theorem hour_split (xs : List S52) (hf : File xs) (hour : Int) : ∃ n : Nat, n ≤ xs.length ∧ (∀ j : Nat, j < n → (rd_T52 xs j).f0 ≤ hour) ∧ (∀ j : Nat, n ≤ j → j < xs.length → hour < (rd_T52 xs j).f0) := by
  obtain ⟨l20, hv⟩ := hf
  have split : ∀ m : Nat, m ≤ xs.length → ∃ n : Nat, n ≤ m ∧ (∀ j : Nat, j < n → (rd_T52 xs j).f0 ≤ hour) ∧ (∀ j : Nat, n ≤ j → j < m → hour < (rd_T52 xs j).f0) := by
    intro m
    induction m with
    | zero => exact fun _ => ⟨0, Nat.le_refl _, fun j h => by omega, fun j _ h => by omega⟩
    | succ m ih =>
      intro hm
      obtain ⟨n, h1, h2, h3⟩ := ih (by omega)
      by_cases c : hour < (rd_T52 xs m).f0
      · refine ⟨n, by omega, h2, fun j hj hlt => ?_⟩
        rcases Nat.lt_or_ge j m with h | h
        · exact h3 j hj h
        · obtain rfl : j = m := by omega
          exact c
      · refine ⟨m + 1, by omega, fun j hj => ?_, fun j hj hlt => by omega⟩
        have := rise_hours xs hv j m (by omega) (by omega)
        omega
  exact split xs.length (Nat.le_refl _)

theorem impl_on (xs : List S52) (hf : File xs) (s : ByteArray) (hour : Int) (n : Nat) (n1 : n ≤ xs.length) (n2 : ∀ j : Nat, j < n → (rd_T52 xs j).f0 ≤ hour) (n3 : ∀ j : Nat, n ≤ j → j < xs.length → hour < (rd_T52 xs j).f0) : Ev (fun k => impl_holdsOn.f k xs s hour) (holdN xs n s) := by
  obtain ⟨l20, hv⟩ := hf
  unfold impl_holdsOn.f
  have main : ∀ d i : Nat, i + d = xs.length → Ev (fun k => impl_holdsOn.l0 k s hour (holdN xs (min i n) s) xs xs.length i) (holdN xs n s) := by
    intro d
    induction d with
    | zero =>
      intro i hi
      exact Ev.step (fun k => impl_holdsOn.l0.eq_2 ..) (Ev.neg (by omega) (Ev.eq (Ev.now _) (by rw [Nat.min_eq_right (by omega)])))
    | succ d ih =>
      intro i hi
      have w1 : wrap64 ((i : Int) + 1) = ((i + 1 : Nat) : Int) := by rw [w64 (by omega) (by omega)]; rfl
      have next := ih (i + 1) (by omega)
      rw [← w1] at next
      have skip : min (i + 1) n = min i n ∨ True := .inr trivial
      by_cases c : i < n
      · rw [Nat.min_eq_left (by omega)] at next
        rw [Nat.min_eq_left (by omega)]
        rw [show holdN xs (i + 1) s = if (rd_T52 xs i).f1 = s then Go.bits .xor .i64 (holdN xs i s) (rd_T52 xs i).f3 else holdN xs i s from rfl] at next
        have h2 := n2 i c
        by_cases q : (rd_T52 xs i).f1 = s
        · rw [if_pos q] at next
          have v := hv i (by omega)
          have bd := holdN_bd xs i (fun j hj => hv j (by omega)) s
          obtain ⟨b1, b2, _⟩ := bits_or (holdN xs i s) (rd_T52 xs i).f3 bd ⟨by have := v.2.2.1; omega, v.2.2.1.2⟩
          refine Ev.step (fun k => impl_holdsOn.l0.eq_2 ..) (Ev.pos (by omega) (Ev.pos (by omega) (Ev.pos (by omega) (Ev.pos (str_eq.2 q) ?_))))
          refine Ev.step (fun k => impl_holdsOn.j1.eq_2 ..) (Ev.neg (by simp; omega) ?_)
          cases hp : (rd_T52 xs i).f2 with
          | true =>
            have := v.2.2.2.2.1 hp
            rw [q] at this
            rw [b1 this]
            exact Ev.pos rfl next
          | false =>
            have := v.2.2.2.2.2 hp
            rw [q] at this
            rw [b2 this]
            exact Ev.neg (by simp) next
        · rw [if_neg q] at next
          refine Ev.step (fun k => impl_holdsOn.l0.eq_2 ..) (Ev.pos (by omega) (Ev.pos (by omega) (Ev.pos (by omega) (Ev.neg (fun h => q (str_eq.1 h)) ?_))))
          exact Ev.step (fun k => impl_holdsOn.j1.eq_2 ..) (Ev.pos rfl next)
      · rw [Nat.min_eq_right (by omega)] at next
        rw [Nat.min_eq_right (by omega)]
        have h3 := n3 i (by omega) (by omega)
        refine Ev.step (fun k => impl_holdsOn.l0.eq_2 ..) (Ev.pos (by omega) (Ev.pos (by omega) (Ev.pos (by omega) (Ev.ite (fun _ => ?_) (fun _ => ?_)))))
        · exact Ev.step (fun k => impl_holdsOn.j1.eq_2 ..) (Ev.pos (by simp; omega) next)
        · exact Ev.step (fun k => impl_holdsOn.j1.eq_2 ..) (Ev.pos rfl next)
  have := main xs.length 0 (by omega)
  rw [Nat.min_eq_left (by omega)] at this
  exact this

theorem hour_eq' (a : Int) : spec_l20Hour.f a = some (decide (0 ≤ a ∧ a ≤ 240)) := by
  unfold spec_l20Hour.f
  rw [l1In_eq]
  rfl
/-- Behind the last hour all entries count. -/
theorem all_hours (xs : List S52) (hf : File xs) (s : ByteArray) : Ev (fun k => impl_holdsOn.f k xs s 240) (holdN xs xs.length s) := by
  obtain ⟨n, n1, n2, n3⟩ := hour_split xs hf 240
  have n5 := impl_on xs hf s 240 n n1 n2 n3
  have : n = xs.length := by
    rcases Nat.lt_or_ge n xs.length with h | h
    · have h3 := n3 n (Nat.le_refl _) h
      have h4 := (hf.2 n h).1.2
      omega
    · omega
  rw [← this]
  exact n5
theorem releaseAll (xs : List S52) (hl : xs.length ≤ 1048576) (s : ByteArray) (hour : Int) : ∃ r : List S52 × Bool, Ev (fun k => spec_ReleaseAll.f k xs s hour) r ∧ Ev (fun k => impl_ReleaseAll.f k xs s hour) r ∧ r.1.length ≤ 1048577 ∧
    (r.2 = true → File xs ∧ isId s = true ∧ File r.1 ∧ (if holdN xs xs.length s = 0 then r.1 = xs else r.1 = xs ++ [(⟨hour, s, false, holdN xs xs.length s⟩ : S52)])) := by
  obtain ⟨b, h1, h2, h3⟩ := files xs (by omega)
  obtain ⟨g, g1, g2⟩ := fileAt xs (by omega) s hour
  unfold spec_ReleaseAll.f impl_ReleaseAll.f
  have jt : Ev (fun k => spec_ReleaseAll.j0 k xs s hour true) ([], false) := Ev.step (fun k => spec_ReleaseAll.j0.eq_2 ..) (Ev.pos rfl (Ev.now _))
  have no : ∀ h : ¬ (File xs ∧ isId s = true ∧ (0 ≤ hour ∧ hour ≤ 240)), ¬ g = true := fun h q => h (g2.1 q)
  by_cases c0 : File xs
  · by_cases c1 : isId s = true
    · by_cases c2 : 0 ≤ hour ∧ hour ≤ 240
      · have ho := all_hours xs c0 s
        have at1 := at_eq xs (by omega) xs.length (Nat.le_refl _) s
        have gt := g2.2 ⟨c0, c1, c2⟩
        by_cases q : holdN xs xs.length s = 0
        · refine ⟨(xs, true), Ev.bind h1 (Ev.pos (h3.2 c0) (Ev.bind (isId_spec s) (Ev.pos c1 (Ev.const (hour_eq' hour) ?_)))), Ev.bind g1 (Ev.pos gt (Ev.bind ho (Ev.pos q ?_))), by simp; omega, fun _ => ⟨c0, c1, c0, by rw [if_pos q]⟩⟩
          · refine Ev.step (fun k => spec_ReleaseAll.j0.eq_2 ..) (Ev.neg (by simp [c2]) (Ev.some (Ev.pos (by simp; omega) (Ev.some (Ev.bind at1 (Ev.pos q (Ev.bind (by simpa using h1) (Ev.pos (h3.2 c0) (Ev.eq (Ev.now _) (by simp))))))))))
          · unfold slices_Clone_impl_Entry.f
            exact Ev.const (a := xs) (by simp; omega) (Ev.now _)
        · obtain ⟨c, k1, k3, k2⟩ := implAdd xs hl hour s false (holdN xs xs.length s)
          refine ⟨_, Ev.bind h1 (Ev.pos (h3.2 c0) (Ev.bind (isId_spec s) (Ev.pos c1 (Ev.const (hour_eq' hour) ?_)))), Ev.bind g1 (Ev.pos gt (Ev.bind ho (Ev.neg q (Ev.bind k2 (Ev.now _))))), ?_, ?_⟩
          · refine Ev.step (fun k => spec_ReleaseAll.j0.eq_2 ..) (Ev.neg (by simp [c2]) (Ev.some (Ev.pos (by simp; omega) (Ev.some (Ev.bind at1 (Ev.neg q (Ev.pos (by simp; omega) (Ev.some (Ev.bind (by simpa using k1) ?_)))))))))
            cases c with
            | true => exact Ev.pos rfl (Ev.eq (Ev.now _) (by simp))
            | false => exact Ev.neg (by simp) (Ev.now _)
          · cases c with
            | true => simp; omega
            | false => simp
          · cases c with
            | true => exact fun _ => ⟨c0, c1, k3.1 rfl, by rw [if_neg q]; rfl⟩
            | false => exact fun h => by cases h
      · refine ⟨([], false), Ev.bind h1 (Ev.pos (h3.2 c0) (Ev.bind (isId_spec s) (Ev.pos c1 (Ev.const (hour_eq' hour) ?_)))), Ev.bind g1 (Ev.neg (no (fun h => c2 h.2.2)) (Ev.now _)), by simp, (fun h => by cases h)⟩
        exact Ev.step (fun k => spec_ReleaseAll.j0.eq_2 ..) (Ev.pos (by simp; omega) (Ev.now _))
    · exact ⟨([], false), Ev.bind h1 (Ev.pos (h3.2 c0) (Ev.bind (isId_spec s) (Ev.neg c1 jt))), Ev.bind g1 (Ev.neg (no (fun h => c1 h.2.1)) (Ev.now _)), by simp, (fun h => by cases h)⟩
  · exact ⟨([], false), Ev.bind h1 (Ev.neg (fun q => c0 (h3.1 q)) jt), Ev.bind g1 (Ev.neg (no (fun h => c0 h.1)) (Ev.now _)), by simp, (fun h => by cases h)⟩


theorem spec_by (xs : List S52) (hf : File xs) (hour : Int) (n : Nat) (n1 : n ≤ xs.length) (n2 : ∀ j : Nat, j < n → (rd_T52 xs j).f0 ≤ hour) (n3 : ∀ j : Nat, n ≤ j → j < xs.length → hour < (rd_T52 xs j).f0) : Ev (fun k => spec_l20By.f k xs hour) (n : Int) := by
  obtain ⟨l20, hv⟩ := hf
  unfold spec_l20By.f
  have main : ∀ d i : Nat, i + d = n → Ev (fun k => spec_l20By.l0 k xs hour i) (n : Int) := by
    intro d
    induction d with
    | zero =>
      intro i hi
      obtain rfl : i = n := by omega
      refine Ev.step (fun k => spec_l20By.l0.eq_2 ..) (Ev.ite (fun h => Ev.pos (by omega) (Ev.neg ?_ (Ev.now _))) (fun _ => Ev.now _))
      have := n3 i (Nat.le_refl _) (by omega)
      omega
    | succ d ih =>
      intro i hi
      have w1 : wrap64 ((i : Int) + 1) = ((i + 1 : Nat) : Int) := by rw [w64 (by omega) (by omega)]; rfl
      refine Ev.step (fun k => spec_l20By.l0.eq_2 ..) (Ev.pos (by omega) (Ev.pos (by omega) (Ev.pos (n2 i (by omega)) ?_)))
      rw [w1]
      exact ih (i + 1) (by omega)
  exact main n 0 (by omega)

/-- How many entries have an hour of at most so much: the reference's count, and the program's holds after it. -/
theorem by_hour (xs : List S52) (hf : File xs) (s : ByteArray) (hour : Int) : ∃ n : Nat, n ≤ xs.length ∧ (∀ j : Nat, j < n → (rd_T52 xs j).f0 ≤ hour) ∧ (∀ j : Nat, n ≤ j → j < xs.length → hour < (rd_T52 xs j).f0) ∧
    Ev (fun k => spec_l20By.f k xs hour) (n : Int) ∧ Ev (fun k => impl_holdsOn.f k xs s hour) (holdN xs n s) := by
  obtain ⟨n, n1, n2, n3⟩ := hour_split xs hf hour
  exact ⟨n, n1, n2, n3, spec_by xs hf hour n n1 n2 n3, impl_on xs hf s hour n n1 n2 n3⟩


theorem hour_eq (a : Int) : spec_l20Hour.f a = some (decide (0 ≤ a ∧ a ≤ 240)) := by
  unfold spec_l20Hour.f
  rw [l1In_eq]
  rfl

theorem holdsOnBoth (xs : List S52) (hl : xs.length ≤ 1048577) (s : ByteArray) (hour : Int) : ∃ r, Ev (fun k => spec_HoldsOn.f k xs s hour) r ∧ Ev (fun k => impl_HoldsOn.f k xs s hour) r := by
  obtain ⟨b, h1, h2, h3⟩ := files xs hl
  obtain ⟨g, g1, g2⟩ := fileAt xs hl s hour
  unfold spec_HoldsOn.f impl_HoldsOn.f
  have jt : Ev (fun k => spec_HoldsOn.j0 k xs s hour true) (0, false) := Ev.step (fun k => spec_HoldsOn.j0.eq_2 ..) (Ev.pos rfl (Ev.now _))
  have no : ∀ h : ¬ (File xs ∧ isId s = true ∧ (0 ≤ hour ∧ hour ≤ 240)), ¬ g = true := fun h q => h (g2.1 q)
  by_cases c0 : File xs
  · by_cases c1 : isId s = true
    · by_cases c2 : 0 ≤ hour ∧ hour ≤ 240
      · obtain ⟨n, n1, _, _, n4, n5⟩ := by_hour xs c0 s hour
        refine ⟨(holdN xs n s, true), Ev.bind h1 (Ev.pos (h3.2 c0) (Ev.bind (isId_spec s) (Ev.pos c1 (Ev.const (hour_eq hour) ?_)))), Ev.bind g1 (Ev.pos (g2.2 ⟨c0, c1, c2⟩) (Ev.bind n5 (Ev.now _)))⟩
        exact Ev.step (fun k => spec_HoldsOn.j0.eq_2 ..) (Ev.neg (by simp [c2]) (Ev.bind n4 (Ev.bind (at_eq xs hl n n1 s) (Ev.now _))))
      · refine ⟨(0, false), Ev.bind h1 (Ev.pos (h3.2 c0) (Ev.bind (isId_spec s) (Ev.pos c1 (Ev.const (hour_eq hour) ?_)))), Ev.bind g1 (Ev.neg (no (fun h => c2 h.2.2)) (Ev.now _))⟩
        exact Ev.step (fun k => spec_HoldsOn.j0.eq_2 ..) (Ev.pos (by simp; omega) (Ev.now _))
    · exact ⟨(0, false), Ev.bind h1 (Ev.pos (h3.2 c0) (Ev.bind (isId_spec s) (Ev.neg c1 jt))), Ev.bind g1 (Ev.neg (no (fun h => c1 h.2.1)) (Ev.now _))⟩
  · exact ⟨(0, false), Ev.bind h1 (Ev.neg (fun q => c0 (h3.1 q)) jt), Ev.bind g1 (Ev.neg (no (fun h => c0 h.1)) (Ev.now _))⟩


/-- Texts in rising order, each once. -/
def SortedB (l : List ByteArray) : Prop := l.Pairwise fun a b => frB a < frB b
theorem less_fr (a b : ByteArray) : Op.bytesLess a.toList b.toList = decide (frB a < frB b) := by
  rw [ByteArray.toList_eq, ByteArray.toList_eq]
  exact Go.Proofs.bytesLess_eq _ _
theorem fr_inj {a b : ByteArray} (h : frB a = frB b) : a = b := str_ext h
theorem sortedB_ext : ∀ a b : List ByteArray, SortedB a → SortedB b → (∀ x, x ∈ a ↔ x ∈ b) → a = b := by
  intro a
  induction a with
  | nil =>
    intro b _ _ h
    cases b with
    | nil => rfl
    | cons y ys => exact absurd ((h y).2 (List.mem_cons_self ..)) (List.not_mem_nil)
  | cons x xs ih =>
    intro b ha hb h
    cases b with
    | nil => exact absurd ((h x).1 (List.mem_cons_self ..)) (List.not_mem_nil)
    | cons y ys =>
      obtain ⟨ha1, ha2⟩ := List.pairwise_cons.1 ha
      obtain ⟨hb1, hb2⟩ := List.pairwise_cons.1 hb
      have e : x = y := by
        rcases List.mem_cons.1 ((h x).1 (List.mem_cons_self ..)) with q | q
        · exact q
        · rcases List.mem_cons.1 ((h y).2 (List.mem_cons_self ..)) with p | p
          · exact p.symm
          · exact absurd (List.lt_trans (ha1 y p) (hb1 x q)) (List.lt_irrefl _)
      subst e
      rw [ih ys ha2 hb2 fun z => ⟨fun hz => ?_, fun hz => ?_⟩]
      · rcases List.mem_cons.1 ((h z).1 (List.mem_cons_of_mem _ hz)) with q | q
        · exact absurd (ha1 z hz) (by rw [q]; exact List.lt_irrefl _)
        · exact q
      · rcases List.mem_cons.1 ((h z).2 (List.mem_cons_of_mem _ hz)) with q | q
        · exact absurd (hb1 z hz) (by rw [q]; exact List.lt_irrefl _)
        · exact q
/-- What is sorted, each element once: the same elements in rising order. -/
theorem compactUp (d : Array (List UInt8)) (hd : ∀ i j : Nat, i ≤ j → j < d.size → d[i]! ≤ d[j]!) : ∀ m : Nat, m ≤ d.size → (Go.Lib.compactUpTo d m).Pairwise (· < ·) ∧ ∀ x, x ∈ Go.Lib.compactUpTo d m ↔ ∃ j, j < m ∧ d[j]! = x := by
  intro m
  induction m with
  | zero =>
    intro _
    refine ⟨?_, fun x => ⟨fun h => ?_, fun ⟨j, hj, _⟩ => absurd hj (by omega)⟩⟩
    · exact List.Pairwise.nil
    · exact absurd h (by simp [Go.Lib.compactUpTo])
  | succ m ih =>
    intro hm
    obtain ⟨i1, i2⟩ := ih (by omega)
    rw [Go.Lib.compactUpTo_succ]
    by_cases k : Go.Lib.keeps d m = true
    · rw [if_pos k]
      refine ⟨List.pairwise_append.2 ⟨i1, List.pairwise_singleton _ _, fun x hx y hy => ?_⟩, fun x => ?_⟩
      · rw [List.mem_singleton.1 hy]
        obtain ⟨j, j1, j2⟩ := (i2 x).1 hx
        have hk := of_decide_eq_true k
        rcases hk with hk | hk
        · omega
        · have a1 := hd j (m - 1) (by omega) (by omega)
          have a2 := hd (m - 1) m (by omega) (by omega)
          rw [j2] at a1
          rcases Decidable.em (x < d[m]!) with q | q
          · exact q
          · have a3 := List.not_lt.1 q
            have a4 := List.le_antisymm (List.le_trans a1 a2) a3
            rw [a4] at a1
            exact absurd (List.le_antisymm a1 a2) hk
      · rw [List.mem_append, i2, List.mem_singleton]
        refine ⟨fun h => ?_, fun ⟨j, j1, j2⟩ => ?_⟩
        · rcases h with ⟨j, j1, j2⟩ | h
          · exact ⟨j, by omega, j2⟩
          · exact ⟨m, by omega, h.symm⟩
        · rcases Nat.lt_or_ge j m with q | q
          · exact .inl ⟨j, q, j2⟩
          · obtain rfl : j = m := by omega
            exact .inr j2.symm
    · rw [if_neg k, List.append_nil]
      refine ⟨i1, fun x => (i2 x).trans ⟨fun ⟨j, j1, j2⟩ => ⟨j, by omega, j2⟩, fun ⟨j, j1, j2⟩ => ?_⟩⟩
      rcases Nat.lt_or_ge j m with q | q
      · exact ⟨j, q, j2⟩
      · obtain rfl : j = m := by omega
        have hk : ¬ (j = 0 ∨ d[j]! ≠ d[j - 1]!) := fun h => k (decide_eq_true h)
        refine ⟨j - 1, ?_, ?_⟩
        · rcases Nat.eq_zero_or_pos j with z | z
          · exact absurd (.inl z) hk
          · omega
        · rw [← j2]
          exact (Decidable.not_not.1 fun h => hk (.inr h)).symm
/-- Sort, then Compact. -/
theorem sortedOf (l : List ByteArray) : SortedB ((Go.Lib.compact ((l.map frB).mergeSort fun x y => decide (x ≤ y))).map toB) ∧ ∀ x, x ∈ (Go.Lib.compact ((l.map frB).mergeSort fun x y => decide (x ≤ y))).map toB ↔ x ∈ l := by
  have hp := List.pairwise_mergeSort (le := fun x y : List UInt8 => decide (x ≤ y)) (fun a b c h1 h2 => decide_eq_true (List.le_trans (of_decide_eq_true h1) (of_decide_eq_true h2))) (fun a b => by
    rcases List.le_total a b with h | h
    · rw [decide_eq_true h]; rfl
    · rw [decide_eq_true h]; exact Bool.or_true _) (l.map frB)
  have hm : ∀ x, x ∈ (l.map frB).mergeSort (fun x y => decide (x ≤ y)) ↔ x ∈ l.map frB := fun x => List.mem_mergeSort
  generalize (l.map frB).mergeSort (fun x y => decide (x ≤ y)) = zs at hp hm ⊢
  have hd : ∀ i j : Nat, i ≤ j → j < zs.toArray.size → zs.toArray[i]! ≤ zs.toArray[j]! := by
    intro i j hij hj
    have hj' : j < zs.length := by simpa using hj
    rw [getElem!_pos zs.toArray i (by simp; omega), getElem!_pos zs.toArray j hj]
    rcases Nat.lt_or_ge i j with q | q
    · exact of_decide_eq_true (List.pairwise_iff_getElem.1 hp i j (by omega) hj' q)
    · obtain rfl : i = j := by omega
      exact List.le_refl _
  obtain ⟨c1, c2⟩ := compactUp zs.toArray hd zs.length (by simp)
  have c3 : ∀ x, x ∈ Go.Lib.compact zs ↔ x ∈ zs := by
    intro x
    refine (c2 x).trans ⟨fun ⟨j, j1, j2⟩ => ?_, fun h => ?_⟩
    · rw [getElem!_pos zs.toArray j (by simpa using j1)] at j2
      rw [← j2]
      exact List.getElem_mem j1
    · obtain ⟨j, j1, j2⟩ := List.getElem_of_mem h
      exact ⟨j, j1, by rw [getElem!_pos zs.toArray j (by simpa using j1)]; exact j2⟩
  refine ⟨?_, fun x => ?_⟩
  · unfold SortedB
    rw [List.pairwise_map]
    exact c1
  · rw [List.mem_map]
    refine ⟨fun ⟨y, y1, y2⟩ => ?_, fun h => ⟨frB x, (c3 _).2 ((hm _).2 (List.mem_map.2 ⟨x, h, rfl⟩)), rfl⟩⟩
    obtain ⟨z, z1, z2⟩ := List.mem_map.1 ((hm y).1 ((c3 y).1 y1))
    rw [← y2, ← z2]
    exact z1
/-- The Ids of the entries from the i-th on that have holds. -/
def heldL (xs : List S52) (n : Nat) : Nat → Nat → List ByteArray
  | 0, _ => []
  | d + 1, i => if holdN xs n (rd_T52 xs i).f1 = 0 then heldL xs n d (i + 1) else (rd_T52 xs i).f1 :: heldL xs n d (i + 1)
theorem mem_heldL (xs : List S52) (n : Nat) (x : ByteArray) : ∀ d i : Nat, x ∈ heldL xs n d i ↔ ∃ j : Nat, i ≤ j ∧ j < i + d ∧ (rd_T52 xs j).f1 = x ∧ holdN xs n x ≠ 0 := by
  intro d
  induction d with
  | zero => exact fun i => ⟨fun h => absurd h List.not_mem_nil, fun ⟨j, h1, h2, _⟩ => absurd h2 (by omega)⟩
  | succ d ih =>
    intro i
    unfold heldL
    by_cases c : holdN xs n (rd_T52 xs i).f1 = 0
    · rw [if_pos c, ih]
      refine ⟨fun ⟨j, h1, h2, h3⟩ => ⟨j, by omega, by omega, h3⟩, fun ⟨j, h1, h2, h3, h4⟩ => ?_⟩
      rcases Nat.lt_or_ge i j with q | q
      · exact ⟨j, by omega, by omega, h3, h4⟩
      · obtain rfl : j = i := by omega
        rw [h3] at c
        exact absurd c h4
    · rw [if_neg c, List.mem_cons, ih]
      refine ⟨fun h => ?_, fun ⟨j, h1, h2, h3, h4⟩ => ?_⟩
      · rcases h with h | ⟨j, h1, h2, h3⟩
        · exact ⟨i, Nat.le_refl _, by omega, h.symm, by rw [h]; exact c⟩
        · exact ⟨j, by omega, by omega, h3⟩
      · rcases Nat.lt_or_ge i j with q | q
        · exact .inr ⟨j, by omega, by omega, h3, h4⟩
        · obtain rfl : j = i := by omega
          exact .inl h3.symm
theorem heldL_length (xs : List S52) (n : Nat) : ∀ d i : Nat, (heldL xs n d i).length ≤ d := by
  intro d
  induction d with
  | zero => exact fun i => Nat.le_refl _
  | succ d ih =>
    intro i
    unfold heldL
    split
    · exact Nat.le_trans (ih _) (by omega)
    · rw [List.length_cons]
      exact Nat.succ_le_succ (ih _)
theorem hold_some (xs : List S52) (s : ByteArray) : ∀ n : Nat, holdN xs n s ≠ 0 → ∃ j : Nat, j < n ∧ (rd_T52 xs j).f1 = s := by
  intro n
  induction n with
  | zero => exact fun h => absurd rfl h
  | succ n ih =>
    intro h
    by_cases c : (rd_T52 xs n).f1 = s
    · exact ⟨n, by omega, c⟩
    · unfold holdN at h
      rw [if_neg c] at h
      obtain ⟨j, j1, j2⟩ := ih h
      exact ⟨j, by omega, j2⟩
/-- The program's way. -/
theorem heldImpl (xs : List S52) (hl : xs.length ≤ 1048577) (hour : Int) (n : Nat) (hon : ∀ s, Ev (fun k => impl_holdsOn.f k xs s hour) (holdN xs n s)) : ∀ d i : Nat, i + d = xs.length → ∀ l : List ByteArray, l.length ≤ i →
    Ev (fun k => impl_HeldContainers.l0 k xs hour l xs xs.length i) ((Go.Lib.compact (((l ++ heldL xs n d i).map frB).mergeSort fun x y => decide (x ≤ y))).map toB, true) := by
  intro d
  induction d with
  | zero =>
    intro i hi l hll
    have e : heldL xs n 0 i = [] := rfl
    rw [e, List.append_nil]
    refine Ev.step (fun k => impl_HeldContainers.l0.eq_2 ..) (Ev.neg (by omega) (Ev.const (a := ((l.map frB).mergeSort fun x y => decide (x ≤ y)).map toB) (by unfold slices_Sort_string.f; rw [if_pos (by omega)]) ?_))
    have hq : (((l.map frB).mergeSort fun x y => decide (x ≤ y)).map toB).map frB = (l.map frB).mergeSort fun x y => decide (x ≤ y) := by
      rw [List.map_map]
      exact List.map_id' _
    refine Ev.const (a := (Go.Lib.compact ((l.map frB).mergeSort fun x y => decide (x ≤ y))).map toB) ?_ (Ev.now _)
    unfold slices_Compact_string.f
    rw [if_pos (by rw [List.length_map, List.length_mergeSort, List.length_map]; omega), hq]
  | succ d ih =>
    intro i hi l hll
    have w1 : wrap64 ((i : Int) + 1) = ((i + 1 : Nat) : Int) := by rw [w64 (by omega) (by omega)]; rfl
    refine Ev.step (fun k => impl_HeldContainers.l0.eq_2 ..) (Ev.pos (by omega) (Ev.pos (by omega) (Ev.pos (by omega) (Ev.bind (hon _) ?_))))
    rw [w1]
    unfold heldL
    by_cases c : holdN xs n (rd_T52 xs i).f1 = 0
    · rw [if_pos c]
      exact Ev.pos c (ih (i + 1) (by omega) l (by omega))
    · rw [if_neg c]
      have := ih (i + 1) (by omega) (l ++ [(rd_T52 xs i).f1]) (by rw [List.length_append, List.length_singleton]; omega)
      rw [List.append_assoc, List.singleton_append] at this
      exact Ev.neg c (Ev.pos (by omega) this)
/-- The reference's way: a text put where it belongs. -/
theorem putIn (out : List ByteArray) (ho : SortedB out) (id : ByteArray) (k : Nat) (hk : k ≤ out.length) (h1 : ∀ x ∈ out.take k, frB x < frB id) (h2 : ∀ x ∈ out.drop k, frB id < frB x) : SortedB (out.take k ++ [id] ++ out.drop k) ∧ (∀ x, x ∈ out.take k ++ [id] ++ out.drop k ↔ x ∈ out ∨ x = id) := by
  have e : out.take k ++ out.drop k = out := List.take_append_drop k out
  have ho' := ho
  unfold SortedB at ho'
  rw [← e] at ho'
  obtain ⟨p1, p2, p3⟩ := List.pairwise_append.1 ho'
  refine ⟨?_, fun x => ?_⟩
  · unfold SortedB
    refine List.pairwise_append.2 ⟨List.pairwise_append.2 ⟨p1, List.pairwise_singleton _ _, fun x hx y hy => ?_⟩, p2, fun x hx y hy => ?_⟩
    · rw [List.mem_singleton.1 hy]
      exact h1 x hx
    · rcases List.mem_append.1 hx with q | q
      · exact p3 x q y hy
      · rw [List.mem_singleton.1 q]
        exact h2 y hy
  · rw [List.mem_append, List.mem_append, List.mem_singleton]
    constructor
    · rintro ((h | h) | h)
      · exact .inl (List.mem_of_mem_take h)
      · exact .inr h
      · exact .inl (List.mem_of_mem_drop h)
    · rintro (h | h)
      · rw [← e] at h
        rcases List.mem_append.1 h with q | q
        · exact .inl (.inl q)
        · exact .inr q
      · exact .inl (.inr h)
theorem rdOf_at (out : List ByteArray) (k : Nat) (h : k < out.length) : rdOf ByteArray.empty out (k : Int) = out[k] := by
  unfold rdOf
  rw [Int.toNat_natCast]
  exact getD_of (List.getElem?_eq_getElem h)
theorem heldPut (xs : List S52) (n : Int) (i : Nat) (hi : i ≤ 1048577) (id : ByteArray) (out : List ByteArray) (ho : SortedB out) (hl : out.length ≤ 1048577) : ∀ d k : Nat, k + d = out.length → (∀ x ∈ out.take k, frB x < frB id) →
    ∃ out' : List ByteArray, SortedB out' ∧ (∀ x, x ∈ out' ↔ x ∈ out ∨ x = id) ∧ out'.length ≤ out.length + 1 ∧ ∀ r, Ev (fun q => spec_HeldContainers.l0 q xs out' n ((i + 1 : Nat) : Int)) r → Ev (fun q => spec_HeldContainers.l1 q xs out n i id k) r := by
  have wi : wrap64 ((i : Int) + 1) = ((i + 1 : Nat) : Int) := by rw [w64 (by omega) (by omega)]; rfl
  intro d
  induction d with
  | zero =>
    intro k hk h1
    obtain rfl : k = out.length := by omega
    obtain ⟨s1, s2⟩ := putIn out ho id out.length (Nat.le_refl _) h1 (fun x hx => by rw [List.drop_length] at hx; exact absurd hx List.not_mem_nil)
    refine ⟨_, s1, s2, by simp, fun r hr => Ev.step (fun q => spec_HeldContainers.l1.eq_2 ..) (Ev.neg (by omega) (Ev.pos rfl (Ev.some ?_)))⟩
    rw [wi, Int.toNat_natCast]
    refine Ev.pos (by omega) (Ev.pos (by omega) (Ev.some (Ev.pos (by simp; omega) (Ev.some (Ev.some (Ev.pos (by simp; omega) (Ev.some (Ev.some (Ev.pos (by simp; omega) ?_)))))))))
    rw [List.nil_append]
    exact hr
  | succ d ih =>
    intro k hk h1
    have hlt : k < out.length := by omega
    have e := rdOf_at out k hlt
    by_cases c : frB out[k] < frB id
    · obtain ⟨out', o1, o2, o3, o4⟩ := ih (k + 1) (by omega) (fun x hx => by
        rw [List.take_succ_eq_append_getElem hlt] at hx
        rcases List.mem_append.1 hx with q | q
        · exact h1 x q
        · rw [List.mem_singleton.1 q]
          exact c)
      refine ⟨out', o1, o2, o3, fun r hr => ?_⟩
      refine Ev.step (fun q => spec_HeldContainers.l1.eq_2 ..) (Ev.pos (by omega) (Ev.pos (by omega) (Ev.pos (by rw [e, less_fr]; exact decide_eq_true c) ?_)))
      rw [show wrap64 ((k : Int) + 1) = ((k + 1 : Nat) : Int) from by rw [w64 (by omega) (by omega)]; rfl]
      exact o4 r hr
    · have nc : ¬ Op.bytesLess (rdOf ByteArray.empty out (k : Int)).toList id.toList = true := by
        rw [e, less_fr]
        exact fun h => c (of_decide_eq_true h)
      by_cases c2 : out[k] = id
      · refine ⟨out, ho, fun x => ⟨.inl, fun h => h.elim (fun q => q) (fun h => by rw [h, ← c2]; exact List.getElem_mem hlt)⟩, by omega, fun r hr => ?_⟩
        refine Ev.step (fun q => spec_HeldContainers.l1.eq_2 ..) (Ev.pos (by omega) (Ev.pos (by omega) (Ev.neg nc (Ev.neg (by omega) (Ev.pos (by rw [e]; exact str_eq.2 c2) ?_)))))
        rw [wi]
        exact hr
      · have h2 : ∀ x ∈ out.drop k, frB id < frB x := by
          intro x hx
          have lt : frB id < frB out[k] := by
            rcases Decidable.em (frB id < frB out[k]) with q | q
            · exact q
            · exact absurd (fr_inj (List.le_antisymm (List.not_lt.1 q) (List.not_lt.1 c))) c2
          rw [List.drop_eq_getElem_cons hlt] at hx
          rcases List.mem_cons.1 hx with q | q
          · rw [q]
            exact lt
          · have ho' := ho
            unfold SortedB at ho'
            rw [← List.take_append_drop k out, List.drop_eq_getElem_cons hlt] at ho'
            have p2 := (List.pairwise_append.1 ho').2.1
            exact List.lt_trans lt ((List.pairwise_cons.1 p2).1 x q)
        obtain ⟨s1, s2⟩ := putIn out ho id k (by omega) h1 h2
        refine ⟨_, s1, s2, by simp; omega, fun r hr => Ev.step (fun q => spec_HeldContainers.l1.eq_2 ..) (Ev.pos (by omega) (Ev.pos (by omega) (Ev.neg nc (Ev.neg (by omega) (Ev.neg (by rw [e]; exact fun h => c2 (str_eq.1 h)) (Ev.some ?_))))))⟩
        rw [wi, Int.toNat_natCast]
        refine Ev.pos (by omega) (Ev.some (Ev.pos (by simp; omega) (Ev.some (Ev.some (Ev.pos (by simp; omega) (Ev.some (Ev.some (Ev.pos (by simp; omega) ?_))))))))
        rw [List.nil_append]
        exact hr
/-- The reference's way through the entries. -/
theorem heldSpec (xs : List S52) (hl : xs.length ≤ 1048577) (n : Nat) (hn : n ≤ xs.length) : ∀ d i : Nat, i + d = n → ∀ out : List ByteArray, SortedB out → out.length ≤ i →
    ∃ out' : List ByteArray, SortedB out' ∧ out'.length ≤ n ∧ (∀ x, x ∈ out' ↔ x ∈ out ∨ ∃ j : Nat, i ≤ j ∧ j < n ∧ (rd_T52 xs j).f1 = x ∧ holdN xs n x ≠ 0) ∧ Ev (fun k => spec_HeldContainers.l0 k xs out n i) (out', true) := by
  intro d
  induction d with
  | zero =>
    intro i hi out ho hol
    exact ⟨out, ho, by omega, fun x => ⟨.inl, fun h => h.elim (fun q => q) (fun ⟨j, h1, h2, _⟩ => absurd h2 (by omega))⟩, Ev.step (fun k => spec_HeldContainers.l0.eq_2 ..) (Ev.neg (by omega) (Ev.now _))⟩
  | succ d ih =>
    intro i hi out ho hol
    have w1 : wrap64 ((i : Int) + 1) = ((i + 1 : Nat) : Int) := by rw [w64 (by omega) (by omega)]; rfl
    have at1 := at_eq xs hl n hn (rd_T52 xs i).f1
    have S : ∀ r, Ev _ r → Ev (fun k => spec_HeldContainers.l0 k xs out n i) r := fun r hr => Ev.step (fun k => spec_HeldContainers.l0.eq_2 ..) (Ev.pos (by omega) (Ev.pos (by omega) (Ev.pos (by omega) (Ev.bind at1 hr))))
    by_cases c : holdN xs n (rd_T52 xs i).f1 = 0
    · obtain ⟨out', o1, o2, o3, o4⟩ := ih (i + 1) (by omega) out ho (by omega)
      rw [← w1] at o4
      refine ⟨out', o1, o2, fun x => (o3 x).trans ⟨fun h => h.imp (fun q => q) (fun ⟨j, h1, h2⟩ => ⟨j, by omega, h2⟩), fun h => h.imp (fun q => q) (fun ⟨j, h1, h2, h3, h4⟩ => ?_)⟩, S _ (Ev.pos c o4)⟩
      rcases Nat.lt_or_ge i j with q | q
      · exact ⟨j, by omega, h2, h3, h4⟩
      · obtain rfl : j = i := by omega
        rw [h3] at c
        exact absurd c h4
    · obtain ⟨out1, p1, p2, p3, p4⟩ := heldPut xs n i (by omega) (rd_T52 xs i).f1 out ho (by omega) out.length 0 (by omega) (fun x hx => by rw [List.take_zero] at hx; exact absurd hx List.not_mem_nil)
      obtain ⟨out', o1, o2, o3, o4⟩ := ih (i + 1) (by omega) out1 p1 (by omega)
      refine ⟨out', o1, o2, fun x => (o3 x).trans ⟨fun h => ?_, fun h => ?_⟩, S _ (Ev.neg c (p4 _ o4))⟩
      · rcases h with h | ⟨j, h1, h2⟩
        · rcases (p2 x).1 h with q | q
          · exact .inl q
          · exact .inr ⟨i, Nat.le_refl _, by omega, q.symm, by rw [q]; exact c⟩
        · exact .inr ⟨j, by omega, h2⟩
      · rcases h with h | ⟨j, h1, h2, h3, h4⟩
        · exact .inl ((p2 x).2 (.inl h))
        · rcases Nat.lt_or_ge i j with q | q
          · exact .inr ⟨j, by omega, h2, h3, h4⟩
          · obtain rfl : j = i := by omega
            exact .inl ((p2 x).2 (.inr h3.symm))
theorem heldConts (xs : List S52) (hl : xs.length ≤ 1048577) (hour : Int) : ∃ r : List ByteArray × Bool, Ev (fun k => spec_HeldContainers.f k xs hour) r ∧ Ev (fun k => impl_HeldContainers.f k xs hour) r ∧ r.1.length ≤ 1048577 ∧
    (∀ x ∈ r.1, File xs ∧ (0 ≤ hour ∧ hour ≤ 240) ∧ isId x = true ∧ ∃ v : Int, v ≠ 0 ∧ 0 ≤ v ∧ v ≤ 15 ∧ Ev (fun k => impl_holdsOn.f k xs x hour) v) := by
  obtain ⟨b, h1, h2, h3⟩ := files xs hl
  unfold spec_HeldContainers.f impl_HeldContainers.f
  have jt : Ev (fun k => spec_HeldContainers.j0 k xs hour [] true) ([], false) := Ev.step (fun k => spec_HeldContainers.j0.eq_2 ..) (Ev.pos rfl (Ev.now _))
  have it : Ev (fun k => impl_HeldContainers.j0 k xs hour true) ([], false) := Ev.step (fun k => impl_HeldContainers.j0.eq_2 ..) (Ev.pos rfl (Ev.now _))
  by_cases c : b = true
  · have hf := h3.1 c
    by_cases c2 : 0 ≤ hour ∧ hour ≤ 240
    · obtain ⟨n, n1, _, _, n4, _⟩ := by_hour xs hf ByteArray.empty hour
      have hon : ∀ s, Ev (fun k => impl_holdsOn.f k xs s hour) (holdN xs n s) := by
        intro s
        obtain ⟨m, _, _, _, m4, m5⟩ := by_hour xs hf s hour
        have e := Ev.funct n4 m4
        obtain rfl : n = m := by omega
        exact m5
      obtain ⟨out, o1, o2, o3, o4⟩ := heldSpec xs hl n n1 n 0 (by omega) [] List.Pairwise.nil (Nat.zero_le _)
      have im := heldImpl xs hl hour n hon xs.length 0 (by omega) [] (Nat.zero_le _)
      obtain ⟨s1, s2⟩ := sortedOf ([] ++ heldL xs n xs.length 0)
      have e := sortedB_ext _ _ s1 o1 fun x => by
        rw [s2, o3, List.nil_append, mem_heldL]
        refine ⟨fun ⟨j, _, h2, h3, h4⟩ => ?_, fun h => ?_⟩
        · obtain ⟨j', p1, p2⟩ := hold_some xs x n h4
          exact .inr ⟨j', Nat.zero_le _, p1, p2, h4⟩
        · rcases h with h | ⟨j, _, h2, h3, h4⟩
          · exact absurd h List.not_mem_nil
          · exact ⟨j, Nat.zero_le _, by omega, h3, h4⟩
      rw [e] at im
      exact ⟨(out, true), Ev.some (Ev.bind h1 (Ev.pos c (Ev.const (hour_eq hour) (Ev.step (fun k => spec_HeldContainers.j0.eq_2 ..) (Ev.neg (by simp [c2]) (Ev.bind n4 o4)))))),
        Ev.bind h2 (Ev.pos c (Ev.const (within_eq _ _ _) (Ev.step (fun k => impl_HeldContainers.j0.eq_2 ..) (Ev.neg (by simp [c2]) im)))), by show out.length ≤ _; omega, fun x hx => by
          rcases (o3 x).1 hx with h | ⟨j, _, q2, q3, q4⟩
          · exact absurd h List.not_mem_nil
          · have bd := holdN_bd xs n (fun i hi => hf.2 i (by omega)) x
            exact ⟨hf, c2, by rw [← q3]; exact (hf.2 j (by omega)).2.1, holdN xs n x, q4, bd.1, bd.2, hon x⟩⟩
    · refine ⟨([], false), Ev.some (Ev.bind h1 (Ev.pos c (Ev.const (hour_eq hour) ?_))), Ev.bind h2 (Ev.pos c (Ev.const (within_eq _ _ _) ?_)), by simp, fun x hx => absurd hx List.not_mem_nil⟩
      · rw [show (!decide (0 ≤ hour ∧ hour ≤ 240)) = true from by simp; omega]
        exact jt
      · rw [show (!decide (0 ≤ hour ∧ hour ≤ 240)) = true from by simp; omega]
        exact it
  · exact ⟨([], false), Ev.some (Ev.bind h1 (Ev.neg c jt)), Ev.bind h2 (Ev.neg c it), by simp, fun x hx => absurd hx List.not_mem_nil⟩

theorem rFiles (xs : List S52) (hl : xs.length ≤ 1048577) : Ev (fun k => laws_rFiles.f k xs xs) true := by
  unfold laws_rFiles.f
  have main : ∀ d i : Nat, i + d = xs.length → Ev (fun k => laws_rFiles.l0 k xs xs i) true := by
    intro d
    induction d with
    | zero =>
      intro i hi
      exact Ev.step (fun k => laws_rFiles.l0.eq_2 ..) (Ev.neg (by omega) (Ev.now _))
    | succ d ih =>
      intro i hi
      refine Ev.step (fun k => laws_rFiles.l0.eq_2 ..) (Ev.pos (by omega) (Ev.pos (by omega) (Ev.pos (by omega) (Ev.neg (by simp) ?_))))
      rw [show wrap64 ((i : Int) + 1) = ((i + 1 : Nat) : Int) from by rw [w64 (by omega) (by omega)]; rfl]
      exact ih (i + 1) (by omega)
  exact Ev.pos rfl (main xs.length 0 (by omega))

theorem rTexts (xs : List ByteArray) (hl : xs.length ≤ 1048577) : Ev (fun k => laws_rTexts.f k xs xs) true := by
  unfold laws_rTexts.f
  have main : ∀ d i : Nat, i + d = xs.length → Ev (fun k => laws_rTexts.l0 k xs xs i) true := by
    intro d
    induction d with
    | zero =>
      intro i hi
      exact Ev.step (fun k => laws_rTexts.l0.eq_2 ..) (Ev.neg (by omega) (Ev.now _))
    | succ d ih =>
      intro i hi
      refine Ev.step (fun k => laws_rTexts.l0.eq_2 ..) (Ev.pos (by omega) (Ev.pos (by omega) (Ev.pos (by omega) (Ev.pos rfl ?_))))
      rw [show wrap64 ((i : Int) + 1) = ((i + 1 : Nat) : Int) from by rw [w64 (by omega) (by omega)]; rfl]
      exact ih (i + 1) (by omega)
  exact Ev.pos rfl (main xs.length 0 (by omega))

theorem Ev.some_mono {α : Type} {g : Nat → Option α} (hm : ∀ k, LeO (g k) (g (k + 1))) {n : Nat} {r : α} (h : g n = some r) : Ev g r :=
  ⟨n, fun k hk => by
    obtain ⟨d, rfl⟩ : ∃ d, k = n + d := ⟨k - n, by omega⟩
    clear hk
    induction d with
    | zero => exact h
    | succ d ih => exact hm _ _ ih⟩
def namesOk (v : Int) : Bool := match impl_HoldNames.f 10 v, spec_HoldNames.f 10 v with
  | some a, some b => a.1.toList == b.1.toList && (a.2 == b.2) && (v == 0 || (a.2 && !(a.1.toList == ([110, 111, 110, 101] : List UInt8))))
  | _, _ => false
theorem names_all : ∀ x : Fin 16, namesOk (x.val : Int) = true := by decide +kernel
theorem holdNames2 (v : Int) : ∃ a b : ByteArray × Bool, Ev (fun k => impl_HoldNames.f k v) a ∧ Ev (fun k => spec_HoldNames.f k v) b ∧ a.1.toList = b.1.toList ∧ a.2 = b.2 ∧ (v ≠ 0 → 0 ≤ v → v ≤ 15 → a.2 = true ∧ a.1.toList ≠ ([110, 111, 110, 101] : List UInt8)) := by
  by_cases c : 0 ≤ v ∧ v ≤ 15
  · have h := names_all ⟨v.toNat, by omega⟩
    simp only [Int.toNat_of_nonneg c.1] at h
    unfold namesOk at h
    cases ha : impl_HoldNames.f 10 v with
    | none => rw [ha] at h; cases h
    | some a =>
      cases hb : spec_HoldNames.f 10 v with
      | none => rw [ha, hb] at h; cases h
      | some b =>
        rw [ha, hb] at h
        simp only [Bool.and_eq_true, Bool.or_eq_true, beq_iff_eq, Bool.not_eq_true', beq_eq_false_iff_ne] at h
        obtain ⟨⟨h1, h2⟩, h3⟩ := h
        exact ⟨a, b, Ev.some_mono (fun k => impl_HoldNames.mono v k) ha, Ev.some_mono (fun k => spec_HoldNames.mono v k) hb, h1, h2, fun n0 _ _ => h3.resolve_left n0⟩
  · unfold impl_HoldNames.f spec_HoldNames.f
    exact ⟨((⟨#[]⟩ : ByteArray), false), ((⟨#[]⟩ : ByteArray), false), Ev.const (within_eq _ _ _) (Ev.neg (fun h => c (of_decide_eq_true h)) (Ev.now _)), Ev.const (l1In_eq _ _ _) (Ev.neg (fun h => c (of_decide_eq_true h)) (Ev.now _)), rfl, rfl, fun _ h1 h2 => absurd ⟨h1, h2⟩ c⟩
theorem holdsAt (xs : List S52) (hl : xs.length ≤ 1048577) (hf : File xs) (s : ByteArray) (hs : isId s = true) (hour : Int) (hh : 0 ≤ hour ∧ hour ≤ 240) (v : Int) (h : Ev (fun k => impl_holdsOn.f k xs s hour) v) : Ev (fun k => impl_HoldsOn.f k xs s hour) (v, true) := by
  obtain ⟨g, g1, g2⟩ := fileAt xs hl s hour
  unfold impl_HoldsOn.f
  exact Ev.bind g1 (Ev.pos (g2.2 ⟨hf, hs, hh⟩) (Ev.bind h (Ev.now _)))
theorem xor_self_all : ∀ x : Fin 16, Go.bits .xor .i64 (x.val : Int) (x.val : Int) = 0 := by decide +kernel
theorem drawHolds {c : List Int} (hc : Bytes c) : Has (fun k => spec_DrawHoldsOn.f k c) (fun r => r.1.length ≤ 30) := by
  unfold spec_DrawHoldsOn.f
  exact Has.bind (draw_file hc 0 (by omega) (by omega)) fun a ⟨a1, a2, a3⟩ => Has.bind (draw_anyId20 hc a.2.2 (by omega) (by omega)) fun b ⟨b1, b2⟩ => Has.bind (draw_hour20 hc b.2.2 (by omega) (by omega)) fun d _ => Has.now a1
theorem holds1 {c : List Int} (hc : Bytes c) : Has (fun k => laws_FnHolds.j1 k c) (fun r => r = true) := by
  refine Has.step (fun k => laws_FnHolds.j1.eq_2 ..) ?_
  unfold spec_DrawHeldContainers.f
  refine Has.bind (P := fun r => r.1.length ≤ 30) ?_ fun x hx => ?_
  · exact Has.bind (draw_file hc 0 (by omega) (by omega)) fun a ⟨a1, a2, a3⟩ => Has.bind (draw_hour20 hc a.2.2 (by omega) (by omega)) fun b _ => Has.now a1
  obtain ⟨r, h1, h2, h3, h4⟩ := heldConts x.1 (by omega) x.2
  refine Has.ev h2 (Has.ev h1 (Has.neg (by simp) (Has.ev (rTexts r.1 h3) (Has.step (fun k => laws_FnHolds.j2.eq_2 ..) (Has.neg (by simp) ?_)))))
  have main : ∀ d i : Nat, i + d = r.1.length → Has (fun k => laws_FnHolds.l0 k c x.1 x.2 r.1 i) (fun r => r = true) := by
    intro d
    induction d with
    | zero =>
      intro i hi
      refine Has.step (fun k => laws_FnHolds.l0.eq_2 ..) (Has.neg (by omega) (Has.bind (drawHolds hc) fun y hy => ?_))
      obtain ⟨q, q1, q2⟩ := holdsOnBoth y.1 (by omega) y.2.1 y.2.2
      unfold spec_DrawHoldNames.f
      refine Has.ev q2 (Has.ev q1 (Has.bind (P := fun _ => True) (Has.bind (pick hc 0 18 (by omega) (by omega)) fun p _ => Has.now trivial) fun n _ => ?_))
      obtain ⟨a, b, n1, n2, n3, n4, _⟩ := holdNames2 n
      exact Has.ev n1 (Has.ev n2 (Has.pos rfl (Has.pos (by simp) (Has.pos n3 (Has.now (by rw [n4]; simp))))))
    | succ d ih =>
      intro i hi
      have hlt : i < r.1.length := by omega
      obtain ⟨f1, f2, f3, v, v1, v2, v3, v4⟩ := h4 r.1[i] (List.getElem_mem hlt)
      obtain ⟨a, b, n1, _, _, _, n5⟩ := holdNames2 v
      obtain ⟨m1, m2⟩ := n5 v1 v2 v3
      refine Has.step (fun k => laws_FnHolds.l0.eq_2 ..) (Has.pos (by omega) (Has.pos (by omega) ?_))
      rw [rdOf_at r.1 i hlt, show wrap64 ((i : Int) + 1) = ((i + 1 : Nat) : Int) from by rw [w64 (by omega) (by omega)]; rfl]
      exact Has.ev (holdsAt x.1 (by omega) f1 _ f3 x.2 f2 v v4) (Has.ev n1 (Has.pos rfl (Has.neg v1 (Has.pos m1 (Has.neg m2 (ih (i + 1) (by omega)))))))
  exact main r.1.length 0 (by omega)
theorem FnHolds : ∀ (l0 : (List Int)), (l0.length ≤ 9223372036854775807 ∧ ∀ x ∈ l0, (Lit.int .u8 x).wf = true) → ∃ k, laws_FnHolds.f k l0 = some true := by
  intro l0 ⟨_, hw⟩
  have hc : Bytes l0 := bytes_wf hw
  suffices h : Has (fun k => laws_FnHolds.f k l0) (fun r => r = true) by
    obtain ⟨r, hr, rfl⟩ := h
    exact Ev.rounds hr
  unfold laws_FnHolds.f laws_rBig.f
  refine Has.val (Has.ite (fun _ => Has.now rfl) (fun _ => ?_))
  unfold spec_DrawReleaseAll.f
  have dr : Has (fun k => (spec_DrawHoldsOn.f k l0).bind fun bt269 => (some (bt269.1, bt269.2.1, bt269.2.2))) (fun r => r.1.length ≤ 30) := Has.bind (drawHolds hc) fun a ha => Has.now ha
  refine Has.bind dr fun x hx => ?_
  obtain ⟨r, h1, h2, h3, h4⟩ := releaseAll x.1 (by omega) x.2.1 x.2.2
  refine Has.ev h2 (Has.ev h1 (Has.neg (by simp) (Has.ev (rFiles r.1 h3) (Has.step (fun k => laws_FnHolds.j0.eq_2 ..) (Has.neg (by simp) (Has.ite (fun hr => ?_) (fun _ => holds1 hc)))))))
  obtain ⟨f0, fi, f1, f2⟩ := h4 hr
  have none' : holdN r.1 r.1.length x.2.1 = 0 := by
    by_cases q : holdN x.1 x.1.length x.2.1 = 0
    · rw [if_pos q] at f2
      rw [f2]
      exact q
    · rw [if_neg q] at f2
      have bd := holdN_bd x.1 x.1.length (fun i hi => f0.2 i hi) x.2.1
      rw [f2, List.length_append, List.length_singleton]
      have e1 : rd_T52 (x.1 ++ [(⟨x.2.2, x.2.1, false, holdN x.1 x.1.length x.2.1⟩ : S52)]) (x.1.length : Int) = (⟨x.2.2, x.2.1, false, holdN x.1 x.1.length x.2.1⟩ : S52) := by
        unfold rd_T52
        rw [Int.toNat_natCast, List.getD_eq_getElem?_getD, List.getElem?_append_right (Nat.le_refl _), Nat.sub_self]
        rfl
      have e2 := holdN_congr x.1 (x.1 ++ [(⟨x.2.2, x.2.1, false, holdN x.1 x.1.length x.2.1⟩ : S52)]) x.1.length (fun j hj => rd_snoc x.1 _ j hj) x.2.1
      unfold holdN
      rw [e1, if_pos rfl, e2]
      have k := xor_self_all ⟨(holdN x.1 x.1.length x.2.1).toNat, by omega⟩
      simp only [Int.toNat_of_nonneg bd.1] at k
      exact k
  obtain ⟨b, _, b2, b3⟩ := files r.1 (by omega)
  exact Has.ev (holdsAt r.1 (by omega) f1 _ fi 240 (by omega) 0 (none' ▸ all_hours r.1 f1 x.2.1)) (Has.pos rfl (Has.pos rfl (Has.ev b2 (Has.pos (b3.2 f1) (holds1 hc)))))
end Go.Proofs.Yteebkbikpamkmaa.Pure
