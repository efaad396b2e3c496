/- The drawn gates: a truck that is booked can be found and cancelled again, and moving it to its own slot changes nothing. No condition. -/
import Derived.Test.YtglfjaaaegfdnaaInvFnBooking
import Derived.Test.YtglfjaaaegfdnaaWHelp
import Derived.Lib.Zigzag
namespace Go.Proofs.Ytglfjaaaegfdnaa.Pure
open Go.RowKit Go.Proofs.YtglfjaaaegfdnaaW.PrintWords Go.Proofs.YtglfjaaaegfdnaaW.PrintLast Go.Proofs.YtglfjaaaegfdnaaW.PrintMore Go.Proofs.YtglfjaaaegfdnaaW.Help Go.Proofs.Ytglfjaaaegfdnaa.PFnBooking
set_option linter.unusedVariables false
def Has {α : Type} (g : Nat → Option α) (Q : α → Prop) : Prop := ∃ r, Ev g r ∧ Q r
theorem Has.bind {α β : Type} {g : Nat → Option α} {f : Nat → α → Option β} {P : α → Prop} {Q : β → Prop} (h : Has g P) (k : ∀ a, P a → Has (fun n => f n a) Q) : Has (fun n => (g n).bind (f n)) Q := by
 obtain ⟨a, h1, h2⟩ := h
 obtain ⟨r, r1, r2⟩ := k a h2
 exact ⟨r, Ev.bind h1 r1, r2⟩
theorem Has.pos {α : Type} {c : Prop} [Decidable c] {A B : Nat → Option α} {Q : α → Prop} (h : c) (k : Has A Q) : Has (fun n => if c then A n else B n) Q := by
 obtain ⟨r, r1, r2⟩ := k
 exact ⟨r, Ev.pos h r1, r2⟩
theorem Has.neg {α : Type} {c : Prop} [Decidable c] {A B : Nat → Option α} {Q : α → Prop} (h : ¬ c) (k : Has B Q) : Has (fun n => if c then A n else B n) Q := by
 obtain ⟨r, r1, r2⟩ := k
 exact ⟨r, Ev.neg h r1, r2⟩
theorem Has.ite {α : Type} {c : Prop} [Decidable c] {A B : Nat → Option α} {Q : α → Prop} (h1 : c → Has A Q) (h2 : ¬ c → Has B Q) : Has (fun n => if c then A n else B n) Q := by
 by_cases h : c
 ·exact Has.pos h (h1 h)
 ·exact Has.neg h (h2 h)
theorem Has.now {α : Type} {a : α} {Q : α → Prop} (h : Q a) : Has (fun _ => some a) Q := ⟨a, Ev.now _, h⟩
theorem Has.step {α : Type} {g s : Nat → Option α} {Q : α → Prop} (e : ∀ k, g (k + 1) = s k) (h : Has s Q) : Has g Q := by
 obtain ⟨r, r1, r2⟩ := h
 exact ⟨r, Ev.step e r1, r2⟩
theorem Has.mono {α : Type} {g : Nat → Option α} {P Q : α → Prop} (h : Has g P) (k : ∀ a, P a → Q a) : Has g Q := by
 obtain ⟨r, r1, r2⟩ := h
 exact ⟨r, r1, k r r2⟩
theorem Has.val {α β : Type} {a : α} {f : Nat → α → Option β} {Q : β → Prop} (k : Has (fun n => f n a) Q) : Has (fun n => (some a).bind (f n)) Q := k
theorem Has.const {α β : Type} {o : Option α} {f : Nat → α → Option β} {a : α} {Q : β → Prop} (h : o = some a) (k : Has (fun n => f n a) Q) : Has (fun n => o.bind (f n)) Q := by
 obtain ⟨r, r1, r2⟩ := k
 exact ⟨r, Ev.const h r1, r2⟩
theorem Has.of {α : Type} {g : Nat → Option α} {r : α} {Q : α → Prop} (h : Ev g r) (k : Q r) : Has g Q := ⟨r, h, k⟩
theorem Has.ev {α β : Type} {g : Nat → Option α} {f : Nat → α → Option β} {a : α} {Q : β → Prop} (h : Ev g a) (k : Has (fun n => f n a) Q) : Has (fun n => (g n).bind (f n)) Q := by
 obtain ⟨r, r1, r2⟩ := k
 exact ⟨r, Ev.bind h r1, r2⟩
def Bytes (c : List Int) : Prop := ∀ x ∈ c, 0 ≤ x ∧ x ≤ 255
theorem bytes_wf {c : List Int} (h : ∀ x ∈ c, (Lit.int .u8 x).wf = true) : Bytes c := fun x hx => by
 have := h x hx
 simp [Lit.wf, IntKind.min, IntKind.max, IntKind.signed, IntKind.bits] at this
 omega
theorem byte_of (y : Int) : 0 ≤ y % 2 ^ 8 ∧ y % 2 ^ 8 ≤ 255 := by omega
theorem byte_w (z : Int) (h : 0 ≤ z ∧ z ≤ 255) : 0 ≤ wrap64 z ∧ wrap64 z ≤ 255 := by
 rw [w64 (by omega) (by omega)]
 exact h
theorem high_of (s : Int) : 0 ≤ IntKind.u64.wrap s / 1099511627776 ∧ IntKind.u64.wrap s / 1099511627776 < 2 ^ 64 := by
 rw [IntKind.wrap_u64]
 omega
theorem low_byte (s : Int) : 0 ≤ wrap64 (Go.bits .and .u64 (IntKind.u64.wrap s / 1099511627776) 255) ∧ wrap64 (Go.bits .and .u64 (IntKind.u64.wrap s / 1099511627776) 255) ≤ 255 := by
 have h0 := high_of s
 generalize IntKind.u64.wrap s / 1099511627776 = y at h0 ⊢
 have e : Go.bits .and .u64 y 255 = y % 2 ^ 8 := bits_mask .u64 64 (by decide) Go.wraps_u64 8 (by decide) y h0.1 h0.2
 rw [e]
 exact byte_w _ (byte_of _)
theorem next_some (c : List Int) (hc : Bytes c) (a s : Int) (h0 : 0 ≤ a) (h1 : a ≤ 4611686018427387904) : ∃ x t, spec_l1Cur_next.f c a s = some (x, a + 1, t) ∧ 0 ≤ x ∧ x ≤ 255 := by
 unfold spec_l1Cur_next.f
 rw [show wrap64 (a + 1) = a + 1 from w64 (by omega) (by omega)]
 by_cases q : a < (c.length : Int)
 ·have e : 0 ≤ rd c a ∧ rd c a ≤ 255 := by
   unfold rd
   rw [getD_of (List.getElem?_eq_getElem (by omega))]
   exact hc _ (List.getElem_mem _)
  rw [if_pos q, if_pos h0, if_pos (by omega), w64 (by omega) (by omega)]
  exact ⟨_, _, rfl, e⟩
 ·rw [if_neg q, if_neg (by omega)]
  exact ⟨_, _, rfl, low_byte _⟩
def Dr (n a : Int) (r : Int × Int × Int) : Prop := 0 ≤ r.1 ∧ (1 < n → r.1 < n) ∧ (n ≤ 1 → r.1 = 0) ∧ a ≤ r.2.1 ∧ r.2.1 ≤ a + 2
theorem pick_some (c : List Int) (hc : Bytes c) (a s n : Int) (h0 : 0 ≤ a) (h1 : a ≤ 2305843009213693952) : ∃ r, spec_l1Cur_pick.f c a s n = some r ∧ Dr n a r := by
 unfold spec_l1Cur_pick.f
 by_cases q : n ≤ 1
 ·rw [if_pos q]
  exact ⟨_, rfl, by simp [Dr]; omega⟩
 ·rw [if_neg q]
  obtain ⟨x, t, e, x0, x1⟩ := next_some c hc a s h0 (by omega)
  rw [e]
  simp only [Option.bind_some]
  by_cases q2 : n > 200
  ·rw [if_pos q2]
   obtain ⟨y, u, e2, y0, y1⟩ := next_some c hc (a + 1) t (by omega) (by omega)
   rw [e2]
   simp only [Option.bind_some]
   rw [if_neg (by omega), show wrap64 (x * 256) = x * 256 from w64 (by omega) (by omega), show wrap64 (x * 256 + y) = x * 256 + y from w64 (by omega) (by omega), Int.tmod_eq_emod_of_nonneg (by omega)]
   have m0 := Int.emod_nonneg (x * 256 + y) (show n ≠ 0 by omega)
   have m1 := Int.emod_lt_of_pos (x * 256 + y) (show 0 < n by omega)
   exact ⟨_, rfl, by simp only [Dr]; omega⟩
  ·rw [if_neg q2, if_neg (by omega), Int.tmod_eq_emod_of_nonneg (by omega)]
   have m0 := Int.emod_nonneg x (show n ≠ 0 by omega)
   have m1 := Int.emod_lt_of_pos x (show 0 < n by omega)
   exact ⟨_, rfl, by simp only [Dr]; omega⟩
theorem pick {c : List Int} (hc : Bytes c) {a : Int} (s n : Int) (h0 : 0 ≤ a) (h1 : a ≤ 2305843009213693952) : Has (fun _ => spec_l1Cur_pick.f c a s n) (Dr n a) := by
 obtain ⟨r, e, d⟩ := pick_some c hc a s n h0 h1
 exact ⟨r, Ev.nor e, d⟩
def Far {α : Type} (m a : Int) (r : α × Int × Int) : Prop := a ≤ r.2.1 ∧ r.2.1 ≤ a + m
theorem among {c : List Int} (hc : Bytes c) {a : Int} (s : Int) (l : List Int) (hl : l ≠ []) (h0 : 0 ≤ a) (h1 : a ≤ 2305843009213693952) : Has (fun _ => spec_l1Cur_among.f c a s l) (fun r => r.1 ∈ l ∧ a ≤ r.2.1 ∧ r.2.1 ≤ a + 2) := by
 have hn : 0 < l.length := List.length_pos_iff.2 hl
 unfold spec_l1Cur_among.f
 refine Has.bind (pick hc s _ h0 h1) fun r ⟨r0, r1, r2, r3, r4⟩ => ?_
 have r5 : r.1 < (l.length : Int) := by
  rcases Int.lt_or_le 1 (l.length : Int) with h | h
  ·exact r1 h
  ·have := r2 h
   omega
 refine Has.pos r0 (Has.pos r5 (Has.now ⟨?_, r3, r4⟩))
 unfold rd
 rw [getD_of (List.getElem?_eq_getElem (by omega))]
 exact List.getElem_mem _
theorem amongCut {β : Type} {c : List Int} (hc : Bytes c) {a : Int} (s : Int) (l : List Int) (b : Int) (hb : 1 ≤ b) (hl : b + 2 ≤ (l.length : Int)) (hm : (l.length : Int) ≤ 1000) (h0 : 0 ≤ a) (h1 : a ≤ 1152921504606846976) {K : Nat → Int × Int × Int → Option β} {Q : β → Prop}
  (k : ∀ r : Int × Int × Int, r.1 ∈ l → a ≤ r.2.1 → r.2.1 ≤ a + 4 → Has (fun n => K n r) Q) :
  Has (fun n => (spec_l1Cur_pick.f c a s 24).bind fun bt => (if 0 ≤ (wrap64 (b + (wrap64 (Int.tdiv bt.1 11)))) then (if (wrap64 (b + (wrap64 (Int.tdiv bt.1 11)))) ≤ (l.length : Int) then ((spec_l1Cur_among.f c bt.2.1 bt.2.2 (l.take ((wrap64 (b + (wrap64 (Int.tdiv bt.1 11)))) : Int).toNat)).bind (K n)) else (none)) else (none))) Q := by
 refine Has.bind (pick hc s 24 h0 (by omega)) fun r ⟨r0, r1, _, r3, r4⟩ => ?_
 have r5 := r1 (by omega)
 have e : wrap64 (b + wrap64 (Int.tdiv r.1 11)) = b + r.1 / 11 := by
  rw [Int.tdiv_eq_ediv_of_nonneg r0, w64 (x := r.1 / 11) (by omega) (by omega), w64 (by omega) (by omega)]
 rw [e]
 refine Has.pos (by omega) (Has.pos (by omega) ?_)
 refine Has.bind (among hc (a := r.2.1) r.2.2 _ ?_ (by omega) (by omega)) fun q ⟨q0, q1, q2⟩ => k q (List.mem_of_mem_take q0) (by omega) (by omega)
 intro h
 have h2 := congrArg List.length h
 rw [List.length_take, List.length_nil] at h2
 omega
theorem l1In_eq (a b c : Int) : spec_l1In.f a b c = some (decide (b ≤ a ∧ a ≤ c)) := by
 unfold spec_l1In.f
 by_cases h : b ≤ a <;> simp [h]
theorem within_eq (a b c : Int) : impl_within.f a b c = some (decide (b ≤ a ∧ a ≤ c)) := by
 unfold impl_within.f
 by_cases h : b ≤ a <;> simp [h]
theorem has_eq (l : List Int) (hl : l.length ≤ 1000000000) (a : Int) : Ev (fun k => spec_l1Has.f k l a) (decide (a ∈ l)) := by
 unfold spec_l1Has.f
 have main : ∀ d i : Nat, i + d = l.length → Ev (fun k => spec_l1Has.l0 k l a i) (decide (a ∈ l.drop i)) := by
  intro d
  induction d with
  | zero =>
   intro i hi
   exact Ev.step (fun k => spec_l1Has.l0.eq_2 ..) (Ev.neg (by omega) (Ev.eq (Ev.now _) (by simp [List.drop_of_length_le (show l.length ≤ i by omega)])))
  | succ d ih =>
   intro i hi
   have w1 : wrap64 ((i : Int) + 1) = ((i + 1 : Nat) : Int) := by rw [w64 (by omega) (by omega)]; rfl
   have e : rd l (i : Int) = l[i]'(by omega) := by
    unfold rd
    rw [Int.toNat_natCast]
    exact getD_of (List.getElem?_eq_getElem (by omega))
   refine Ev.step (fun k => spec_l1Has.l0.eq_2 ..) (Ev.pos (by omega) (Ev.pos (by omega) ?_))
   rw [e, w1, List.drop_eq_getElem_cons (by omega)]
   by_cases c : l[i]'(by omega) = a
   ·exact Ev.pos c (Ev.eq (Ev.now _) (decide_eq_true (List.mem_cons.2 (Or.inl c.symm))).symm)
   ·refine Ev.neg c (Ev.eq (ih (i + 1) (by omega)) ?_)
    have : ¬ a = l[i]'(by omega) := fun h => c h.symm
    exact decide_eq_decide.2 ⟨fun h => List.mem_cons_of_mem _ h, fun h => (List.mem_cons.1 h).resolve_left this⟩
 exact main l.length 0 (by omega)
theorem slotMem (sl : List (List Int)) (j : Nat) (h : j < sl.length) : rd_L2 sl j ∈ sl := by
 unfold rd_L2
 rw [Int.toNat_natCast, getD_of (List.getElem?_eq_getElem h)]
 exact List.getElem_mem h
theorem rd_mem (s : List Int) (j : Nat) (h : j < s.length) : rd s j ∈ s := by
 unfold rd
 rw [Int.toNat_natCast, getD_of (List.getElem?_eq_getElem h)]
 exact List.getElem_mem h
theorem mem_rd (s : List Int) (x : Int) (h : x ∈ s) : ∃ j : Nat, j < s.length ∧ rd s j = x := by
 obtain ⟨j, hj, rfl⟩ := List.getElem_of_mem h
 refine ⟨j, hj, ?_⟩
 unfold rd
 rw [Int.toNat_natCast]
 exact getD_of (List.getElem?_eq_getElem hj)
theorem find18 (c : List Int) (sl : List (List Int)) (hs : sl.length ≤ 1048577) (hx : ∀ x ∈ sl, x.length ≤ 1048577) (v : Int) : ∀ d i : Nat, i + d = sl.length → ∃ t : Int, Ev (fun k => spec_l18Find.l0 k v i c sl) t ∧
  ((t = -1 ∧ ∀ j : Nat, i ≤ j → j < sl.length → v ∉ rd_L2 sl j) ∨ ∃ m : Nat, t = m ∧ i ≤ m ∧ m < sl.length ∧ v ∈ rd_L2 sl m ∧ ∀ j : Nat, i ≤ j → j < m → v ∉ rd_L2 sl j) := by
 intro d
 induction d with
 | zero =>
  intro i hi
  exact ⟨-1, Ev.step (fun k => spec_l18Find.l0.eq_2 ..) (Ev.neg (by omega) (Ev.now _)), .inl ⟨rfl, fun j h1 h2 => absurd h2 (by omega)⟩⟩
 | succ d ih =>
  intro i hi
  have li : (i : Int) < sl.length := by omega
  have i0 : (0 : Int) ≤ i := by omega
  have w1 : wrap64 ((i : Int) + 1) = ((i + 1 : Nat) : Int) := by rw [w64 (by omega) (by omega)]; rfl
  have hl := hx _ (slotMem sl i (by omega))
  have ha := has_eq (rd_L2 sl i) (by omega) v
  have pre : ∀ r, Ev _ r → Ev (fun k => spec_l18Find.l0 k v i c sl) r := fun r hr => Ev.step (fun k => spec_l18Find.l0.eq_2 ..) (Ev.pos li (Ev.pos i0 (Ev.bind ha hr)))
  by_cases q : v ∈ rd_L2 sl i
  ·exact ⟨i, pre _ (Ev.pos (decide_eq_true q) (Ev.now _)), .inr ⟨i, rfl, Nat.le_refl _, by omega, q, fun j h1 h2 => absurd h2 (by omega)⟩⟩
  ·obtain ⟨t, h1, h2⟩ := ih (i + 1) (by omega)
   have ex : ∀ j : Nat, i ≤ j → (i + 1 ≤ j → v ∉ rd_L2 sl j) → v ∉ rd_L2 sl j := by
    intro j j1 h
    rcases Nat.lt_or_ge i j with g | g
    ·exact h g
    ·obtain rfl : j = i := by omega
     exact q
   rw [← w1] at h1
   refine ⟨t, pre _ (Ev.neg (fun h => q (of_decide_eq_true h)) h1), ?_⟩
   rcases h2 with ⟨rfl, h2⟩ | ⟨m, rfl, m1, m2, m3, m4⟩
   ·exact .inl ⟨rfl, fun j j1 j2 => ex j j1 (fun g => h2 j g j2)⟩
   ·exact .inr ⟨m, rfl, by omega, m2, m3, fun j j1 j2 => ex j j1 (fun g => m4 j g j2)⟩
theorem find18_at (c : List Int) (sl : List (List Int)) (hs : sl.length ≤ 1048577) (hx : ∀ x ∈ sl, x.length ≤ 1048577) (v : Int) (i : Nat) (hi : i < sl.length) (hv : v ∈ rd_L2 sl i) : ∃ t : Int, Ev (fun k => spec_l18Find.f k c sl v) t ∧ (t = i ↔ ¬ ∃ j : Nat, j < i ∧ v ∈ rd_L2 sl j) := by
 obtain ⟨t, h1, h2⟩ := find18 c sl hs hx v sl.length 0 (by omega)
 refine ⟨t, by unfold spec_l18Find.f; exact h1, ?_⟩
 rcases h2 with ⟨rfl, h2⟩ | ⟨m, rfl, m1, m2, m3, m4⟩
 ·exact absurd hv (h2 i (by omega) hi)
 ·constructor
  ·intro e ⟨j, j1, j2⟩
   exact m4 j (by omega) (by omega) j2
  ·intro h
   rcases Nat.lt_trichotomy m i with q | q | q
   ·exact absurd ⟨m, q, m3⟩ h
   ·omega
   ·exact absurd hv (m4 i (by omega) q)
theorem wf99 {x : Int} (h : 1 ≤ x ∧ x ≤ 99) : (Lit.int .i64 x).wf = true := by
 simp [Lit.wf, IntKind.min, IntKind.max, IntKind.signed, IntKind.bits]
 omega
theorem gateInner (c : List Int) (sl : List (List Int)) (hs : sl.length ≤ 1048577) (hx : ∀ x ∈ sl, x.length ≤ 1048577) (R : Prop) (i : Nat) (hi : i < sl.length) (L : Nat) (hL : L ≤ 100) (hn : (rd_L2 sl i).length ≤ 6)
  (cont : ∀ seen : List Int, seen.length = L + (rd_L2 sl i).length → (∀ x, x ∈ seen ↔ ∃ j : Nat, j < i + 1 ∧ x ∈ rd_L2 sl j) → ∃ b : Bool, Ev (fun k => spec_l18Good.l0 k ((L + (rd_L2 sl i).length : Nat) : Int) ((i + 1 : Nat) : Int) c sl) b ∧ Ev (fun k => impl_IsValidGate.l0 k seen sl sl.length ((i + 1 : Nat) : Int) c sl) b ∧ (b = true → R)) :
  ∀ d j : Nat, j + d = (rd_L2 sl i).length → ∀ seen : List Int, seen.length = L + j → (∀ x, x ∈ seen ↔ (∃ p : Nat, p < i ∧ x ∈ rd_L2 sl p) ∨ ∃ p : Nat, p < j ∧ rd (rd_L2 sl i) p = x) → (∀ p : Nat, p < j → rd (rd_L2 sl i) p ≤ rd (rd_L2 sl i) ((j : Int) - 1)) →
  ∃ b : Bool, Ev (fun k => spec_l18Good.l1 k L i (rd_L2 sl i) j c sl) b ∧ Ev (fun k => impl_IsValidGate.l1 k seen (rd_L2 sl i) sl sl.length i (rd_L2 sl i) (rd_L2 sl i).length j c sl) b ∧ (b = true → R ∧ ∀ p : Nat, j ≤ p → p < (rd_L2 sl i).length → 1 ≤ rd (rd_L2 sl i) p ∧ rd (rd_L2 sl i) p ≤ 99) := by
 generalize hsi : rd_L2 sl i = s at *
 intro d
 induction d with
 | zero =>
  intro j hj seen hlen hmem hasc
  obtain rfl : j = s.length := by omega
  have w1 : wrap64 ((i : Int) + 1) = ((i + 1 : Nat) : Int) := by rw [w64 (by omega) (by omega)]; rfl
  have w2 : wrap64 ((L : Int) + (s.length : Int)) = ((L + s.length : Nat) : Int) := by rw [w64 (by omega) (by omega)]; rfl
  obtain ⟨b, b1, b2, b3⟩ := cont seen hlen (fun x => (hmem x).trans ⟨fun h => by
   rcases h with ⟨p, p1, p2⟩ | ⟨p, p1, p2⟩
   ·exact ⟨p, by omega, p2⟩
   ·exact ⟨i, by omega, by rw [hsi, ← p2]; exact rd_mem s p p1⟩, fun ⟨p, p1, p2⟩ => by
   rcases Nat.lt_or_ge p i with q | q
   ·exact .inl ⟨p, q, p2⟩
   ·obtain rfl : p = i := by omega
    rw [hsi] at p2
    exact .inr (mem_rd s x p2)⟩)
  rw [← w1, ← w2] at b1
  rw [← w1] at b2
  exact ⟨b, Ev.step (fun k => spec_l18Good.l1.eq_2 ..) (Ev.neg (by omega) b1), Ev.step (fun k => impl_IsValidGate.l1.eq_2 ..) (Ev.neg (by omega) b2), fun h => ⟨b3 h, fun p h1 h2 => absurd h2 (by omega)⟩⟩
 | succ d ih =>
  intro j hj seen hlen hmem hasc
  have lj : (j : Int) < s.length := by omega
  have j0 : (0 : Int) ≤ j := by omega
  have w1 : wrap64 ((j : Int) + 1) = ((j + 1 : Nat) : Int) := by rw [w64 (by omega) (by omega)]; rfl
  have vin : rd s j ∈ s := rd_mem s j (by omega)
  have S : ∀ r, Ev _ r → Ev (fun k => spec_l18Good.l1 k L i s j c sl) r := fun r hr => Ev.step (fun k => spec_l18Good.l1.eq_2 ..) (Ev.pos lj (Ev.pos j0 (Ev.const (l1In_eq _ _ _) hr)))
  have I : ∀ r, Ev _ r → Ev (fun k => impl_IsValidGate.l1 k seen s sl sl.length i s s.length j c sl) r := fun r hr => Ev.step (fun k => impl_IsValidGate.l1.eq_2 ..) (Ev.pos lj (Ev.pos j0 (Ev.pos lj (Ev.const (within_eq _ _ _) hr))))
  by_cases c1 : 1 ≤ rd s j ∧ rd s j ≤ 99
  ·have lk : klook.f seen (rd s j) = some (decide (rd s j ∈ seen)) := by unfold klook.f; rw [if_pos (wf99 c1)]
   have pt : rd s j ∉ seen → kput.f seen (rd s j) = some (seen ++ [rd s j]) := fun h => by unfold kput.f; rw [if_pos ⟨wf99 c1, by omega⟩, if_neg h]
   obtain ⟨t, t1, t2⟩ := find18_at c sl hs hx (rd s j) i hi (by rw [hsi]; exact vin)
   have go : ∀ (up : ∀ p : Nat, p < j → rd s p < rd s j) (no : ¬ ∃ p : Nat, p < i ∧ rd s j ∈ rd_L2 sl p), rd s j ∉ seen ∧ ∃ b : Bool, Ev (fun k => spec_l18Good.l1 k L i s (wrap64 ((j : Int) + 1)) c sl) b ∧ Ev (fun k => impl_IsValidGate.l1 k (seen ++ [rd s j]) s sl sl.length i s s.length (wrap64 ((j : Int) + 1)) c sl) b ∧ (b = true → R ∧ ∀ p : Nat, j + 1 ≤ p → p < s.length → 1 ≤ rd s p ∧ rd s p ≤ 99) := by
    intro up no
    refine ⟨fun h => ?_, ?_⟩
    ·rcases (hmem _).1 h with h | ⟨p, p1, p2⟩
     ·exact no h
     ·have := up p p1
      omega
    ·rw [w1]
     refine ih (j + 1) (by omega) (seen ++ [rd s j]) (by simp; omega) (fun x => ?_) (fun p hp => ?_)
     ·rw [List.mem_append, List.mem_singleton, hmem x]
      constructor
      ·rintro ((h | ⟨p, p1, p2⟩) | rfl)
       ·exact .inl h
       ·exact .inr ⟨p, by omega, p2⟩
       ·exact .inr ⟨j, by omega, rfl⟩
      ·rintro (h | ⟨p, p1, p2⟩)
       ·exact .inl (.inl h)
       ·rcases Nat.lt_or_ge p j with q | q
        ·exact .inl (.inr ⟨p, q, p2⟩)
        ·obtain rfl : p = j := by omega
         exact .inr p2.symm
     ·have e : (((j + 1 : Nat) : Int) - 1) = (j : Int) := by omega
      rw [e]
      rcases Nat.lt_or_ge p j with q | q
      ·exact Int.le_of_lt (up p q)
      ·obtain rfl : p = j := by omega
       exact Int.le_refl _
   have all : ∀ b : Bool, (b = true → R ∧ ∀ p : Nat, j + 1 ≤ p → p < s.length → 1 ≤ rd s p ∧ rd s p ≤ 99) → (b = true → R ∧ ∀ p : Nat, j ≤ p → p < s.length → 1 ≤ rd s p ∧ rd s p ≤ 99) := fun b g3 h => ⟨(g3 h).1, fun p h1 h2 => by
    rcases Nat.lt_or_ge j p with q | q
    ·exact (g3 h).2 p q h2
    ·obtain rfl : p = j := by omega
     exact c1⟩
   by_cases cj : (j : Int) > 0
   ·have wj : wrap64 ((j : Int) - 1) = (j : Int) - 1 := w64 (by omega) (by omega)
    have b0 : (0 : Int) ≤ (j : Int) - 1 := by omega
    have b1 : (j : Int) - 1 < s.length := by omega
    by_cases ca : rd s ((j : Int) - 1) ≥ rd s j
    ·refine ⟨false, S _ (Ev.pos (decide_eq_true c1) (Ev.pos cj ?_)), I _ (Ev.pos (decide_eq_true c1) (Ev.const lk ?_)), fun h => by cases h⟩
     ·rw [wj]
      exact Ev.pos b0 (Ev.pos b1 (Ev.pos ca (Ev.now _)))
     ·refine Ev.ite (fun _ => Ev.now _) (fun _ => Ev.pos cj ?_)
      rw [wj]
      exact Ev.pos b0 (Ev.pos b1 (Ev.pos ca (Ev.now _)))
    ·have up : ∀ p : Nat, p < j → rd s p < rd s j := fun p hp => by
      have := hasc p hp
      omega
     by_cases cf : ∃ p : Nat, p < i ∧ rd s j ∈ rd_L2 sl p
     ·have cs : rd s j ∈ seen := (hmem _).2 (.inl cf)
      have ct : ¬ t = (i : Int) := fun h => t2.1 h cf
      refine ⟨false, S _ (Ev.pos (decide_eq_true c1) (Ev.pos cj ?_)), I _ (Ev.pos (decide_eq_true c1) (Ev.const lk (Ev.pos (decide_eq_true cs) (Ev.now _)))), fun h => by cases h⟩
      rw [wj]
      exact Ev.pos b0 (Ev.pos b1 (Ev.neg ca (Ev.bind t1 (Ev.neg ct (Ev.now _)))))
     ·obtain ⟨ns, b, g1, g2, g3⟩ := go up cf
      have ct : t = (i : Int) := t2.2 cf
      refine ⟨b, S _ (Ev.pos (decide_eq_true c1) (Ev.pos cj ?_)), I _ (Ev.pos (decide_eq_true c1) (Ev.const lk (Ev.neg (fun h => ns (of_decide_eq_true h)) (Ev.pos cj ?_)))), all b g3⟩
      ·rw [wj]
       exact Ev.pos b0 (Ev.pos b1 (Ev.neg ca (Ev.bind t1 (Ev.pos ct g1))))
      ·rw [wj]
       exact Ev.pos b0 (Ev.pos b1 (Ev.neg ca (Ev.const (pt ns) g2)))
   ·have up : ∀ p : Nat, p < j → rd s p < rd s j := fun p hp => by omega
    by_cases cf : ∃ p : Nat, p < i ∧ rd s j ∈ rd_L2 sl p
    ·have cs : rd s j ∈ seen := (hmem _).2 (.inl cf)
     have ct : ¬ t = (i : Int) := fun h => t2.1 h cf
     exact ⟨false, S _ (Ev.pos (decide_eq_true c1) (Ev.neg cj (Ev.bind t1 (Ev.neg ct (Ev.now _))))), I _ (Ev.pos (decide_eq_true c1) (Ev.const lk (Ev.pos (decide_eq_true cs) (Ev.now _)))), fun h => by cases h⟩
    ·obtain ⟨ns, b, g1, g2, g3⟩ := go up cf
     have ct : t = (i : Int) := t2.2 cf
     exact ⟨b, S _ (Ev.pos (decide_eq_true c1) (Ev.neg cj (Ev.bind t1 (Ev.pos ct g1)))), I _ (Ev.pos (decide_eq_true c1) (Ev.const lk (Ev.neg (fun h => ns (of_decide_eq_true h)) (Ev.neg cj (Ev.const (pt ns) g2))))), all b g3⟩
  ·exact ⟨false, S _ (Ev.neg (fun h => c1 (of_decide_eq_true h)) (Ev.now _)), I _ (Ev.neg (fun h => c1 (of_decide_eq_true h)) (Ev.now _)), fun h => by cases h⟩
def Room (c : List Int) (sl : List (List Int)) (i : Nat) : Prop := ∀ j : Nat, i ≤ j → j < sl.length → (0 ≤ rd c j ∧ rd c j ≤ 6) ∧ ((rd_L2 sl j).length : Int) ≤ rd c j ∧ ∀ x, x ∈ rd_L2 sl j → 1 ≤ x ∧ x ≤ 99
theorem gateOuter (c : List Int) (sl : List (List Int)) (hs : sl.length ≤ 12) (hc : c.length = sl.length) (hx : ∀ x ∈ sl, x.length ≤ 1048577) : ∀ d i : Nat, i + d = sl.length → ∀ (seen : List Int) (L : Nat), L ≤ 6 * i → seen.length = L → (∀ x, x ∈ seen ↔ ∃ j : Nat, j < i ∧ x ∈ rd_L2 sl j) →
  ∃ b : Bool, Ev (fun k => spec_l18Good.l0 k L i c sl) b ∧ Ev (fun k => impl_IsValidGate.l0 k seen sl sl.length i c sl) b ∧ (b = true → Room c sl i) := by
 intro d
 induction d with
 | zero =>
  intro i hi seen L hL hlen hmem
  refine ⟨decide ((L : Int) ≤ 30), Ev.step (fun k => spec_l18Good.l0.eq_2 ..) (Ev.neg (by omega) (Ev.now _)), Ev.step (fun k => impl_IsValidGate.l0.eq_2 ..) (Ev.neg (by omega) (Ev.const (show klen.f seen = some (seen.length : Int) from rfl) (Ev.eq (Ev.now _) ?_))), fun _ j h1 h2 => absurd h2 (by omega)⟩
  rw [hlen]
 | succ d ih =>
  intro i hi seen L hL hlen hmem
  have li : (i : Int) < sl.length := by omega
  have lc : (i : Int) < c.length := by omega
  have i0 : (0 : Int) ≤ i := by omega
  have S : ∀ r, Ev _ r → Ev (fun k => spec_l18Good.l0 k L i c sl) r := fun r hr => Ev.step (fun k => spec_l18Good.l0.eq_2 ..) (Ev.pos li (Ev.pos i0 (Ev.pos lc (Ev.const (l1In_eq _ _ _) hr))))
  have I : ∀ r, Ev _ r → Ev (fun k => impl_IsValidGate.l0 k seen sl sl.length i c sl) r := fun r hr => Ev.step (fun k => impl_IsValidGate.l0.eq_2 ..) (Ev.pos li (Ev.pos i0 (Ev.pos li (Ev.pos lc (Ev.const (within_eq _ _ _) hr)))))
  have sj : ∀ z : Bool, z = true → Ev (fun k => spec_l18Good.j2 k L i (rd_L2 sl i) z c sl) false := fun z hz => Ev.step (fun k => spec_l18Good.j2.eq_2 ..) (Ev.pos hz (Ev.now _))
  have ij : ∀ z : Bool, z = true → Ev (fun k => impl_IsValidGate.j2 k seen (rd_L2 sl i) sl sl.length i z c sl) false := fun z hz => Ev.step (fun k => impl_IsValidGate.j2.eq_2 ..) (Ev.pos hz (Ev.now _))
  by_cases c1 : 0 ≤ rd c i ∧ rd c i ≤ 6
  ·by_cases c2 : ((rd_L2 sl i).length : Int) > rd c i
   ·exact ⟨false, S _ (Ev.pos (decide_eq_true c1) (sj _ (decide_eq_true c2))), I _ (Ev.pos (decide_eq_true c1) (ij _ (decide_eq_true c2))), fun h => by cases h⟩
   ·obtain ⟨b, b1, b2, b3⟩ := gateInner c sl (by omega) hx (Room c sl (i + 1)) i (by omega) L (by omega) (by omega) (fun seen' h1 h2 => ih (i + 1) (by omega) seen' _ (by omega) h1 h2) (rd_L2 sl i).length 0 (by omega) seen (by omega) (fun x => (hmem x).trans ⟨.inl, fun h => by
     rcases h with h | ⟨p, p1, _⟩
     ·exact h
     ·omega⟩) (fun p hp => by omega)
    refine ⟨b, S _ (Ev.pos (decide_eq_true c1) (Ev.step (fun k => spec_l18Good.j2.eq_2 ..) (Ev.neg (fun h => c2 (of_decide_eq_true h)) b1))), I _ (Ev.pos (decide_eq_true c1) (Ev.step (fun k => impl_IsValidGate.j2.eq_2 ..) (Ev.neg (fun h => c2 (of_decide_eq_true h)) b2))), fun h j h1 h2 => ?_⟩
    rcases Nat.lt_or_ge i j with q | q
    ·exact (b3 h).1 j q h2
    ·obtain rfl : j = i := by omega
     refine ⟨c1, by omega, fun x hxm => ?_⟩
     obtain ⟨p, p1, p2⟩ := mem_rd _ x hxm
     rw [← p2]
     exact (b3 h).2 p (by omega) p1
  ·exact ⟨false, S _ (Ev.neg (fun h => c1 (of_decide_eq_true h)) (sj _ rfl)), I _ (Ev.neg (fun h => c1 (of_decide_eq_true h)) (ij _ rfl)), fun h => by cases h⟩
theorem gateBoth (c : List Int) (sl : List (List Int)) (hc : c.length ≤ 1048577) (hs : sl.length ≤ 1048577) (hx : ∀ x ∈ sl, x.length ≤ 1048577) : ∃ b : Bool, Ev (fun k => spec_l18Good.f k c sl) b ∧ Ev (fun k => impl_IsValidGate.f k c sl) b ∧ (b = true → 1 ≤ sl.length ∧ sl.length ≤ 12 ∧ c.length = sl.length ∧ Room c sl 0) := by
 unfold spec_l18Good.f impl_IsValidGate.f
 have sj : ∀ z : Bool, z = true → Ev (fun k => spec_l18Good.j0 k z c sl) false := fun z hz => Ev.step (fun k => spec_l18Good.j0.eq_2 ..) (Ev.pos hz (Ev.now _))
 have ij : ∀ z : Bool, z = true → Ev (fun k => impl_IsValidGate.j0 k z c sl) false := fun z hz => Ev.step (fun k => impl_IsValidGate.j0.eq_2 ..) (Ev.pos hz (Ev.now _))
 by_cases c1 : 1 ≤ (c.length : Int) ∧ (c.length : Int) ≤ 12
 ·by_cases c2 : (sl.length : Int) = (c.length : Int)
  ·have ne : ((sl.length : Int) != (c.length : Int)) = false := by rw [c2]; simp
   obtain ⟨b, b1, b2, b3⟩ := gateOuter c sl (by omega) (by omega) hx sl.length 0 (by omega) [] 0 (by omega) rfl (fun x => ⟨fun h => (by cases h), fun ⟨j, h, _⟩ => by omega⟩)
   refine ⟨b, Ev.const (l1In_eq _ _ _) (Ev.pos (decide_eq_true c1) (Ev.step (fun k => spec_l18Good.j0.eq_2 ..) (Ev.neg (by rw [ne]; exact fun h => by cases h) b1))), Ev.const (within_eq _ _ _) (Ev.pos (decide_eq_true c1) (Ev.step (fun k => impl_IsValidGate.j0.eq_2 ..) (Ev.neg (by rw [ne]; exact fun h => by cases h) b2))), fun h => ⟨by omega, by omega, by omega, b3 h⟩⟩
  ·have ne : ((sl.length : Int) != (c.length : Int)) = true := by simp; omega
   exact ⟨false, Ev.const (l1In_eq _ _ _) (Ev.pos (decide_eq_true c1) (sj _ ne)), Ev.const (within_eq _ _ _) (Ev.pos (decide_eq_true c1) (ij _ ne)), fun h => by cases h⟩
 ·exact ⟨false, Ev.const (l1In_eq _ _ _) (Ev.neg (fun h => c1 (of_decide_eq_true h)) (sj _ rfl)), Ev.const (within_eq _ _ _) (Ev.neg (fun h => c1 (of_decide_eq_true h)) (ij _ rfl)), fun h => by cases h⟩
theorem Ev.back {α : Type} {g s : Nat → Option α} {r : α} (e : ∀ k, g (k + 1) = s k) (h : Ev g r) : Ev s r := by
 obtain ⟨K, hK⟩ := h
 exact ⟨K, fun k hk => (e k).symm.trans (hK (k + 1) (by omega))⟩
theorem Ev.backPos {α : Type} {c : Prop} [Decidable c] {A B : Nat → Option α} {r : α} (h : c) (k : Ev (fun n => if c then A n else B n) r) : Ev A r := Ev.congr (fun n => (if_pos h).symm) k
theorem Ev.backNeg {α : Type} {c : Prop} [Decidable c] {A B : Nat → Option α} {r : α} (h : ¬ c) (k : Ev (fun n => if c then A n else B n) r) : Ev B r := Ev.congr (fun n => (if_neg h).symm) k
theorem Ev.backBind {α β : Type} {o : Nat → Option α} {f : Nat → α → Option β} {a : α} {r : β} (h : Ev o a) (k : Ev (fun n => (o n).bind (f n)) r) : Ev (fun n => f n a) r := by
 obtain ⟨A, hA⟩ := h
 obtain ⟨B, hB⟩ := k
 refine ⟨max A B, fun n hn => ?_⟩
 have h2 : (o n).bind (f n) = Option.some r := hB n (by omega)
 rw [hA n (by omega)] at h2
 exact h2
theorem Ev.backConst {α β : Type} {o : Option α} {f : Nat → α → Option β} {a : α} {r : β} (h : o = Option.some a) (k : Ev (fun n => o.bind (f n)) r) : Ev (fun n => f n a) r := Ev.congr (fun n => by rw [h]; rfl) k
theorem Ev.ne {r q : Bool} (h : r ≠ q) (k : Ev (fun _ => Option.some q) r) : False := h (Ev.funct k (Ev.now q))
def AscAt (sl : List (List Int)) (i : Nat) : Prop := (∀ j : Nat, 0 < j → j < (rd_L2 sl i).length → rd (rd_L2 sl i) ((j : Int) - 1) < rd (rd_L2 sl i) j) ∧ ∀ x, x ∈ rd_L2 sl i → ¬ ∃ p : Nat, p < i ∧ x ∈ rd_L2 sl p
theorem ascInner (c : List Int) (sl : List (List Int)) (hs : sl.length ≤ 1048577) (hx : ∀ x ∈ sl, x.length ≤ 1048577) (i : Nat) (hi : i < sl.length) (L : Int) : ∀ d j : Nat, j + d = (rd_L2 sl i).length → Ev (fun k => spec_l18Good.l1 k L i (rd_L2 sl i) j c sl) true →
  (∀ p : Nat, j ≤ p → p < (rd_L2 sl i).length → (0 < p → rd (rd_L2 sl i) ((p : Int) - 1) < rd (rd_L2 sl i) p) ∧ ¬ ∃ q : Nat, q < i ∧ rd (rd_L2 sl i) p ∈ rd_L2 sl q) ∧ Ev (fun k => spec_l18Good.l0 k (wrap64 (L + ((rd_L2 sl i).length : Int))) (wrap64 ((i : Int) + 1)) c sl) true := by
 have hl := hx _ (slotMem sl i hi)
 intro d
 induction d with
 | zero =>
  intro j hj h
  have h1 := Ev.back (fun k => spec_l18Good.l1.eq_2 ..) h
  exact ⟨fun p p1 p2 => absurd p2 (by omega), Ev.backNeg (by omega) h1⟩
 | succ d ih =>
  intro j hj h
  have lj : (j : Int) < (rd_L2 sl i).length := by omega
  have j0 : (0 : Int) ≤ j := by omega
  have h1 := Ev.backConst (l1In_eq _ _ _) (Ev.backPos j0 (Ev.backPos lj (Ev.back (fun k => spec_l18Good.l1.eq_2 ..) h)))
  obtain ⟨t, t1, t2⟩ := find18_at c sl hs hx (rd (rd_L2 sl i) j) i hi (rd_mem _ j (by omega))
  have hb1 : -9223372036854775808 ≤ (j : Int) + 1 := by omega
  have hb2 : (j : Int) + 1 ≤ 9223372036854775807 := by omega
  have hb3 : -9223372036854775808 ≤ (j : Int) - 1 := by omega
  have hb4 : (j : Int) - 1 ≤ 9223372036854775807 := by omega
  have hj1 : j + 1 + d = (rd_L2 sl i).length := by omega
  by_cases cj : (j : Int) > 0
  ·have jb : (0 : Int) ≤ (j : Int) - 1 := by omega
   have jl : (j : Int) - 1 < (rd_L2 sl i).length := by omega
   by_cases c1 : 1 ≤ rd (rd_L2 sl i) j ∧ rd (rd_L2 sl i) j ≤ 99
   ·have h2 := Ev.backPos cj (Ev.backPos (decide_eq_true c1) h1)
    rw [w64 hb3 hb4] at h2
    have h3 := Ev.backPos jl (Ev.backPos jb h2)
    by_cases ca : rd (rd_L2 sl i) ((j : Int) - 1) ≥ rd (rd_L2 sl i) j
    ·exact (Ev.ne (by simp) (Ev.backPos ca h3)).elim
    ·have h4 := Ev.backBind t1 (Ev.backNeg ca h3)
     by_cases ct : t = (i : Int)
     ·have h5 := Ev.backPos ct h4
      rw [w64 hb1 hb2] at h5
      have q := ih (j + 1) hj1 h5
      refine ⟨fun p p1 p2 => ?_, q.2⟩
      rcases Nat.lt_or_ge j p with g | g
      ·exact q.1 p g p2
      ·obtain rfl : p = j := by omega
       exact ⟨fun _ => Int.not_le.1 ca, t2.1 ct⟩
     ·exact (Ev.ne (by simp) (Ev.backNeg ct h4)).elim
   ·exact (Ev.ne (by simp) (Ev.backNeg (fun h => c1 (of_decide_eq_true h)) h1)).elim
  ·by_cases c1 : 1 ≤ rd (rd_L2 sl i) j ∧ rd (rd_L2 sl i) j ≤ 99
   ·have h4 := Ev.backBind t1 (Ev.backNeg cj (Ev.backPos (decide_eq_true c1) h1))
    by_cases ct : t = (i : Int)
    ·have h5 := Ev.backPos ct h4
     rw [w64 hb1 hb2] at h5
     have q := ih (j + 1) hj1 h5
     refine ⟨fun p p1 p2 => ?_, q.2⟩
     rcases Nat.lt_or_ge j p with g | g
     ·exact q.1 p g p2
     ·obtain rfl : p = j := by omega
      exact ⟨fun h => absurd h (by omega), t2.1 ct⟩
    ·exact (Ev.ne (by simp) (Ev.backNeg ct h4)).elim
   ·exact (Ev.ne (by simp) (Ev.backNeg (fun h => c1 (of_decide_eq_true h)) h1)).elim
theorem ascOuter (c : List Int) (sl : List (List Int)) (hs : sl.length ≤ 12) (hc : c.length = sl.length) (hx : ∀ x ∈ sl, x.length ≤ 1048577) : ∀ d i : Nat, i + d = sl.length → ∀ L : Int, Ev (fun k => spec_l18Good.l0 k L i c sl) true → ∀ j : Nat, i ≤ j → j < sl.length → AscAt sl j := by
 intro d
 induction d with
 | zero => exact fun i hi L _ j j1 j2 => absurd j2 (by omega)
 | succ d ih =>
  intro i hi L h j j1 j2
  have li : (i : Int) < sl.length := by omega
  have lc : (i : Int) < c.length := by omega
  have i0 : (0 : Int) ≤ i := by omega
  have hb1 : -9223372036854775808 ≤ (i : Int) + 1 := by omega
  have hb2 : (i : Int) + 1 ≤ 9223372036854775807 := by omega
  have il : i < sl.length := by omega
  have hd : i + 1 + d = sl.length := by omega
  have h1 := Ev.backConst (l1In_eq _ _ _) (Ev.backPos lc (Ev.backPos i0 (Ev.backPos li (Ev.back (fun k => spec_l18Good.l0.eq_2 ..) h))))
  have sj : ∀ z : Bool, z = true → Ev (fun k => spec_l18Good.j2 k L i (rd_L2 sl i) z c sl) true → False := fun z hz q => Ev.ne (by simp) (Ev.backPos hz (Ev.back (fun k => spec_l18Good.j2.eq_2 ..) q))
  by_cases c1 : 0 ≤ rd c i ∧ rd c i ≤ 6
  ·have h2 := Ev.backPos (decide_eq_true c1) h1
   by_cases c2 : ((rd_L2 sl i).length : Int) > rd c i
   ·exact (sj _ (decide_eq_true c2) h2).elim
   ·have h3 := Ev.backNeg (fun h => c2 (of_decide_eq_true h)) (Ev.back (fun k => spec_l18Good.j2.eq_2 ..) h2)
    obtain ⟨a, b⟩ := ascInner c sl (by omega) hx i il L (rd_L2 sl i).length 0 (by omega) h3
    rw [w64 hb1 hb2] at b
    rcases Nat.lt_or_ge i j with g | g
    ·exact ih (i + 1) hd _ b j g j2
    ·obtain rfl : j = i := by omega
     refine ⟨fun p p1 p2 => (a p (by omega) p2).1 p1, fun x hxm => ?_⟩
     obtain ⟨p, p1, p2⟩ := mem_rd _ x hxm
     rw [← p2]
     exact (a p (by omega) p1).2
  ·exact (sj _ rfl (Ev.backNeg (fun h => c1 (of_decide_eq_true h)) h1)).elim
theorem goodAsc (c : List Int) (sl : List (List Int)) (hs : sl.length ≤ 12) (hc : c.length = sl.length) (hx : ∀ x ∈ sl, x.length ≤ 1048577) (h : Ev (fun k => spec_l18Good.f k c sl) true) : ∀ j : Nat, j < sl.length → AscAt sl j := by
 unfold spec_l18Good.f at h
 have sj : ∀ z : Bool, z = true → Ev (fun k => spec_l18Good.j0 k z c sl) true → False := fun z hz q => Ev.ne (by simp) (Ev.backPos hz (Ev.back (fun k => spec_l18Good.j0.eq_2 ..) q))
 have h1 := Ev.backConst (l1In_eq _ _ _) h
 have ne : ((sl.length : Int) != (c.length : Int)) = false := by rw [hc]; simp
 intro j hj
 by_cases c1 : 1 ≤ (c.length : Int) ∧ (c.length : Int) ≤ 12
 ·have h2 := Ev.backPos (decide_eq_true c1) h1
  rw [ne] at h2
  exact ascOuter c sl hs hc hx sl.length 0 (by omega) 0 (Ev.backNeg (by simp) (Ev.back (fun k => spec_l18Good.j0.eq_2 ..) h2)) j (Nat.zero_le _) hj
 ·exact (sj _ rfl (Ev.backNeg (fun h => c1 (of_decide_eq_true h)) h1)).elim
theorem rising (s : List Int) (h : ∀ j : Nat, 0 < j → j < s.length → rd s ((j : Int) - 1) < rd s j) : s.Pairwise (· < ·) := by
 rw [List.pairwise_iff_getElem]
 have get : ∀ j : Nat, (hj : j < s.length) → rd s j = s[j] := fun j hj => by
  unfold rd
  rw [Int.toNat_natCast]
  exact getD_of (List.getElem?_eq_getElem hj)
 have main : ∀ d i : Nat, (h1 : i < s.length) → (h2 : i + 1 + d < s.length) → s[i] < s[i + 1 + d] := by
  intro d
  induction d with
  | zero =>
   intro i h1 h2
   have := h (i + 1) (by omega) h2
   rw [show (((i + 1 : Nat) : Int) - 1) = (i : Int) by omega, get i h1, get (i + 1) h2] at this
   exact this
  | succ d ih =>
   intro i h1 h2
   have a := ih i h1 (by omega)
   have b := h (i + 1 + (d + 1)) (by omega) h2
   rw [show (((i + 1 + (d + 1) : Nat) : Int) - 1) = ((i + 1 + d : Nat) : Int) by omega, get _ (by omega), get _ h2] at b
   exact Int.lt_trans a b
 intro i j hi hj hij
 obtain ⟨d, rfl⟩ : ∃ d, j = i + 1 + d := ⟨j - (i + 1), by omega⟩
 exact main d i hi hj
theorem cloneInt (l : List Int) (h : l.length < 17592186044416) : slices_Clone_int.f l = some l := by
 unfold slices_Clone_int.f
 show (if (0 + l.length < 17592186044416) then some ([] ++ l) else none) = _
 rw [if_pos (by omega), List.nil_append]
theorem ownInt (l : List Int) (h : l.length < 17592186044416) : spec_l1Own.f l = some l := by
 unfold spec_l1Own.f
 show (if (0 + l.length < 17592186044416) then some ([] ++ l) else none) = _
 rw [if_pos (by omega), List.nil_append]
theorem slotAt (sl : List (List Int)) (i : Nat) (h : i < sl.length) : rd_L2 sl i = sl[i] := by
 unfold rd_L2
 rw [Int.toNat_natCast]
 exact getD_of (List.getElem?_eq_getElem h)
theorem implOwnGate (c : List Int) (sl : List (List Int)) (hc : c.length ≤ 1048577) (hs : sl.length ≤ 1048577) (hx : ∀ x ∈ sl, x.length ≤ 1048577) : Ev (fun k => impl_ownGate.f k c sl) (c, sl) := by
 unfold impl_ownGate.f
 have main : ∀ d i : Nat, i + d = sl.length → Ev (fun k => impl_ownGate.l0 k sl sl.length i c (sl.take i)) (c, sl) := by
  intro d
  induction d with
  | zero =>
   intro i hi
   obtain rfl : i = sl.length := by omega
   exact Ev.step (fun k => impl_ownGate.l0.eq_2 ..) (Ev.neg (by omega) (Ev.eq (Ev.now _) (by rw [List.take_length])))
  | succ d ih =>
   intro i hi
   have li : i < sl.length := by omega
   have lt : (sl.take i).length < 5864062014805 := by rw [List.length_take]; omega
   have hr := hx _ (List.getElem_mem li)
   have cl := cloneInt sl[i] (by omega)
   have l1 : (i : Int) < sl.length := by omega
   have i0 : (0 : Int) ≤ i := by omega
   have w1 : wrap64 ((i : Int) + 1) = ((i + 1 : Nat) : Int) := by rw [w64 (by omega) (by omega)]; rfl
   have := ih (i + 1) (by omega)
   rw [List.take_succ_eq_append_getElem li, ← w1] at this
   refine Ev.step (fun k => impl_ownGate.l0.eq_2 ..) (Ev.pos l1 (Ev.pos i0 (Ev.pos l1 ?_)))
   rw [slotAt sl i li]
   exact Ev.const cl (Ev.pos lt this)
 exact Ev.const (cloneInt c (by omega)) (main sl.length 0 (by omega))
theorem specOwnGate (c : List Int) (sl : List (List Int)) (hc : c.length ≤ 1048577) (hs : sl.length ≤ 1048577) (hx : ∀ x ∈ sl, x.length ≤ 1048577) : Ev (fun k => spec_l18Own.f k c sl) (c, sl) := by
 unfold spec_l18Own.f
 have main : ∀ d i : Nat, i + d = sl.length → Ev (fun k => spec_l18Own.l0 k i c sl c (sl.take i)) (c, sl) := by
  intro d
  induction d with
  | zero =>
   intro i hi
   obtain rfl : i = sl.length := by omega
   exact Ev.step (fun k => spec_l18Own.l0.eq_2 ..) (Ev.neg (by omega) (Ev.eq (Ev.now _) (by rw [List.take_length])))
  | succ d ih =>
   intro i hi
   have li : i < sl.length := by omega
   have lt : (sl.take i).length < 5864062014805 := by rw [List.length_take]; omega
   have hr := hx _ (List.getElem_mem li)
   have cl := ownInt sl[i] (by omega)
   have l1 : (i : Int) < sl.length := by omega
   have i0 : (0 : Int) ≤ i := by omega
   have w1 : wrap64 ((i : Int) + 1) = ((i + 1 : Nat) : Int) := by rw [w64 (by omega) (by omega)]; rfl
   have := ih (i + 1) (by omega)
   rw [List.take_succ_eq_append_getElem li, ← w1] at this
   refine Ev.step (fun k => spec_l18Own.l0.eq_2 ..) (Ev.pos l1 (Ev.pos i0 ?_))
   rw [slotAt sl i li]
   exact Ev.const cl (Ev.pos lt this)
 exact Ev.const (ownInt c (by omega)) (main sl.length 0 (by omega))
def putAt (s : List Int) (v : Int) : List Int := (s ++ [v]).mergeSort fun x y => decide (x ≤ y)
theorem sort_unique (a b : List Int) (ha : a.Pairwise (· ≤ ·)) (hb : b.Pairwise (· ≤ ·)) (h : a.Perm b) : a = b := List.Perm.eq_of_pairwise (fun x y _ _ h1 h2 => Int.le_antisymm h1 h2) ha hb h
theorem putAt_sorted (s : List Int) (v : Int) : (putAt s v).Pairwise (· ≤ ·) := by
 have h := List.pairwise_mergeSort (le := fun x y : Int => decide (x ≤ y)) (fun a b c h1 h2 => decide_eq_true (Int.le_trans (of_decide_eq_true h1) (of_decide_eq_true h2))) (fun a b => by
  rcases Int.le_total a b with q | q
  ·rw [decide_eq_true q]; rfl
  ·rw [decide_eq_true q, Bool.or_true]) (s ++ [v])
 exact h.imp fun q => of_decide_eq_true q
theorem putAt_perm (s : List Int) (v : Int) : (putAt s v).Perm (s ++ [v]) := List.mergeSort_perm _ _
theorem putAt_mem (s : List Int) (v x : Int) : x ∈ putAt s v ↔ x ∈ s ∨ x = v := by
 rw [(putAt_perm s v).mem_iff, List.mem_append, List.mem_singleton]
theorem putAt_len (s : List Int) (v : Int) : (putAt s v).length = s.length + 1 := by rw [(putAt_perm s v).length_eq, List.length_append, List.length_singleton]
theorem rd_get (s : List Int) (j : Nat) (h : j < s.length) : rd s (j : Int) = s[j] := by
 unfold rd
 rw [Int.toNat_natCast]
 exact getD_of (List.getElem?_eq_getElem h)
theorem l1Put_eq (s : List Int) (hs : s.length ≤ 1048577) (hr : s.Pairwise (· < ·)) (v : Int) (hv : v ∉ s) : Ev (fun k => spec_l1Put.f k s v) (putAt s v) := by
 unfold spec_l1Put.f
 have main : ∀ d i : Nat, i + d = s.length → (∀ j : Nat, (h : j < i) → (h2 : j < s.length) → s[j] < v) → Ev (fun k => spec_l1Put.l0 k s v i) (putAt s v) := by
  intro d
  have fin : ∀ i : Nat, i ≤ s.length → (∀ j : Nat, (h : j < i) → (h2 : j < s.length) → s[j] < v) → (∀ j : Nat, i ≤ j → (h2 : j < s.length) → v < s[j]) → s.take i ++ [v] ++ s.drop i = putAt s v := by
   intro i hi h1 h2
   refine sort_unique _ _ ?_ (putAt_sorted s v) ?_
   ·have le : s.Pairwise (· ≤ ·) := hr.imp fun q => Int.le_of_lt q
    have lt : ∀ x ∈ s.take i, x < v := fun x hx => by
     obtain ⟨j, hj, rfl⟩ := List.getElem_of_mem hx
     rw [List.length_take] at hj
     rw [List.getElem_take]
     exact h1 j (by omega) (by omega)
    have gt : ∀ x ∈ s.drop i, v < x := fun x hx => by
     obtain ⟨j, hj, rfl⟩ := List.getElem_of_mem hx
     rw [List.length_drop] at hj
     rw [List.getElem_drop]
     exact h2 (i + j) (by omega) (by omega)
    rw [List.append_assoc, List.pairwise_append, List.singleton_append, List.pairwise_cons]
    refine ⟨le.sublist (List.take_sublist _ _), ⟨fun x hx => Int.le_of_lt (gt x hx), le.sublist (List.drop_sublist _ _)⟩, fun a ha b hb => ?_⟩
    rcases List.mem_cons.1 hb with rfl | hb
    ·exact Int.le_of_lt (lt a ha)
    ·exact Int.le_of_lt (Int.lt_trans (lt a ha) (gt b hb))
   ·refine List.Perm.trans ?_ (putAt_perm s v).symm
    rw [List.append_assoc, List.singleton_append]
    refine List.perm_middle.trans ?_
    rw [List.take_append_drop]
    exact (List.perm_append_comm (l₁ := [v]) (l₂ := s))
  have last : ∀ i : Nat, i ≤ s.length → (∀ j : Nat, (h : j < i) → (h2 : j < s.length) → s[j] < v) → (∀ j : Nat, i ≤ j → (h2 : j < s.length) → v < s[j]) →
    Ev (fun n => (Option.some (([] : List Int) : List Int)).bind fun y194 => (if (i : Int) ≤ (s.length : Int) then (if y194.length + (s.take (i : Int).toNat).length < 17592186044416 then ((Option.some (y194 ++ (s.take (i : Int).toNat) : List Int)).bind fun y198 => ((Option.some (([v] : List Int) : List Int)).bind fun y201 => (if y198.length + y201.length < 17592186044416 then ((Option.some (y198 ++ y201 : List Int)).bind fun y204 => (if y204.length + (s.drop (i : Int).toNat).length < 17592186044416 then (Option.some (y204 ++ (s.drop (i : Int).toNat))) else (none))) else (none)))) else (none)) else (none))) (putAt s v) := by
   intro i hi h1 h2
   refine Ev.some (Ev.pos (by omega) (Ev.pos ?_ (Ev.some (Ev.some (Ev.pos ?_ (Ev.some (Ev.pos ?_ (Ev.eq (Ev.now _) ?_))))))))
   ·simp only [Int.toNat_natCast, List.length_take, List.length_nil]; omega
   ·simp only [Int.toNat_natCast, List.length_take, List.nil_append, List.length_singleton]; omega
   ·simp only [Int.toNat_natCast, List.length_take, List.nil_append, List.length_append, List.length_drop, List.length_singleton]; omega
   ·rw [List.nil_append, Int.toNat_natCast]
    exact fin i hi h1 h2
  induction d with
  | zero =>
   intro i hi h1
   exact Ev.step (fun k => spec_l1Put.l0.eq_2 ..) (Ev.neg (by omega) (last i (by omega) h1 (fun j j1 j2 => absurd j2 (by omega))))
  | succ d ih =>
   intro i hi h1
   have li : i < s.length := by omega
   have li' : (i : Int) < s.length := by omega
   have i0 : (0 : Int) ≤ i := by omega
   have er := rd_get s i li
   have ne : ¬ s[i] = v := fun e => hv (e ▸ List.getElem_mem li)
   by_cases c : s[i] < v
   ·have := ih (i + 1) (by omega) (fun j h h2 => by
     rcases Nat.lt_or_ge j i with g | g
     ·exact h1 j g h2
     ·obtain rfl : j = i := by omega
      exact c)
    have w1 : wrap64 ((i : Int) + 1) = ((i + 1 : Nat) : Int) := by rw [w64 (by omega) (by omega)]; rfl
    rw [← w1] at this
    exact Ev.step (fun k => spec_l1Put.l0.eq_2 ..) (Ev.pos li' (Ev.pos i0 (Ev.pos (by rw [er]; exact c) this)))
   ·refine Ev.step (fun k => spec_l1Put.l0.eq_2 ..) (Ev.pos li' (Ev.pos i0 (Ev.neg (by rw [er]; exact c) (Ev.neg (by rw [er]; exact ne) (last i (by omega) h1 ?_)))))
    intro j j1 j2
    rcases Nat.lt_or_ge i j with g | g
    ·have := (List.pairwise_iff_getElem.1 hr) i j li j2 g
     omega
    ·obtain rfl : j = i := by omega
     omega
 exact main s.length 0 (by omega) (fun j h _ => absurd h (by omega))
theorem putOne (c : List Int) (sl : List (List Int)) (hx : ∀ x ∈ sl, x.length ≤ 1048577) (v : Int) (m : Nat) (hm : m < sl.length) : impl_Gate_put.f c sl v m = some (sl.set m (putAt (sl[m]'hm) v)) := by
 have hl := hx _ (List.getElem_mem hm)
 unfold impl_Gate_put.f
 have e : sl.getD m [] = sl[m]'hm := getD_of (List.getElem?_eq_getElem hm)
 rw [if_pos (by omega), if_pos (by omega), Int.toNat_natCast, e, if_pos (by omega)]
 rfl
theorem put_le (sl : List (List Int)) (hx : ∀ x ∈ sl, x.length ≤ 7) (m : Nat) (hm : m < sl.length) (v : Int) : ∀ x ∈ sl.set m (putAt (sl[m]'hm) v), x.length ≤ 8 := by
 intro x h
 rcases List.mem_or_eq_of_mem_set h with h | h
 ·have := hx x h
  omega
 ·rw [h, putAt_len]
  have := hx _ (List.getElem_mem hm)
  omega
theorem slotsIn (c : List Int) (sl : List (List Int)) (hs : sl.length ≤ 1048577) (q : List Int) (hq : q.length ≤ 1000) : Ev (fun k => slices_ContainsFunc_int.f k q c sl) (!decide (∀ j : Nat, j < q.length → 0 ≤ rd q j ∧ rd q j ≤ (sl.length : Int) - 1)) := by
 unfold slices_ContainsFunc_int.f slices_IndexFunc_int_87.f
 have wl : wrap64 ((sl.length : Int) - 1) = (sl.length : Int) - 1 := w64 (by omega) (by omega)
 have main : ∀ d i : Nat, i + d = q.length → ∃ t : Int, Ev (fun k => slices_IndexFunc_int_87.l0 k q q.length i c sl) t ∧ (t ≥ 0 ↔ ¬ ∀ j : Nat, i ≤ j → j < q.length → 0 ≤ rd q j ∧ rd q j ≤ (sl.length : Int) - 1) := by
  intro d
  induction d with
  | zero =>
   intro i hi
   exact ⟨-1, Ev.step (fun k => slices_IndexFunc_int_87.l0.eq_2 ..) (Ev.neg (by omega) (Ev.now _)), ⟨fun h => absurd h (by omega), fun h => absurd (fun j h1 h2 => absurd h2 (by omega)) h⟩⟩
  | succ d ih =>
   intro i hi
   have li : (i : Int) < q.length := by omega
   have i0 : (0 : Int) ≤ i := by omega
   obtain ⟨t, h1, h2⟩ := ih (i + 1) (by omega)
   have no : impl_isGateFor_1.f (rd q i) c sl = some (!decide (0 ≤ rd q i ∧ rd q i ≤ (sl.length : Int) - 1)) := by
    unfold impl_isGateFor_1.f
    rw [wl, within_eq]
    rfl
   have w1 : wrap64 ((i : Int) + 1) = ((i + 1 : Nat) : Int) := by rw [w64 (by omega) (by omega)]; rfl
   rw [← w1] at h1
   have pre : ∀ r, Ev _ r → Ev (fun k => slices_IndexFunc_int_87.l0 k q q.length i c sl) r := fun r hr => Ev.step (fun k => slices_IndexFunc_int_87.l0.eq_2 ..) (Ev.pos li (Ev.pos i0 (Ev.pos li (Ev.const no hr))))
   by_cases cc : 0 ≤ rd q i ∧ rd q i ≤ (sl.length : Int) - 1
   ·refine ⟨t, pre _ (Ev.neg ?_ h1), h2.trans ⟨fun z y => z (fun j j1 j2 => y j (by omega) j2), fun z y => z (fun j j1 j2 => ?_)⟩⟩
    ·rw [decide_eq_true cc]
     exact fun h => by cases h
    ·rcases Nat.lt_or_ge i j with g | g
     ·exact y j g j2
     ·obtain rfl : j = i := by omega
      exact cc
   ·refine ⟨i, pre _ (Ev.pos ?_ (Ev.now _)), ⟨fun _ y => cc (y i (Nat.le_refl _) (by omega)), fun _ => by omega⟩⟩
    rw [decide_eq_false cc]
    rfl
 obtain ⟨t, t1, t2⟩ := main q.length 0 (by omega)
 refine Ev.bind t1 (Ev.eq (Ev.now _) ?_)
 by_cases h : ∀ j : Nat, j < q.length → 0 ≤ rd q j ∧ rd q j ≤ (sl.length : Int) - 1
 ·rw [decide_eq_true h, decide_eq_false (fun z => t2.1 z (fun j _ hj => h j hj))]
  rfl
 ·rw [decide_eq_false h, decide_eq_true (t2.2 (fun z => h (fun j hj => z j (by omega) hj)))]
  rfl
theorem gateFor (c : List Int) (sl : List (List Int)) (hs : sl.length ≤ 1048577) (b : Bool) (hb : Ev (fun k => impl_IsValidGate.f k c sl) b) (v : Int) (q : List Int) (hq : q.length ≤ 1000) :
  Ev (fun k => impl_isGateFor.f k c sl v q) (b && (decide (1 ≤ v ∧ v ≤ 99) && decide (∀ j : Nat, j < q.length → 0 ≤ rd q j ∧ rd q j ≤ (sl.length : Int) - 1))) := by
 unfold impl_isGateFor.f
 refine Ev.bind hb ?_
 cases b with
 | false => exact Ev.neg (by simp) (Ev.now _)
 | true =>
  refine Ev.pos rfl (Ev.const (within_eq _ _ _) ?_)
  by_cases cv : 1 ≤ v ∧ v ≤ 99
  ·refine Ev.pos (decide_eq_true cv) (Ev.bind (slotsIn c sl hs q hq) (Ev.eq (Ev.now _) ?_))
   rw [decide_eq_true cv, Bool.not_not]
   rfl
  ·exact Ev.neg (fun h => cv (of_decide_eq_true h)) (Ev.eq (Ev.now _) (by rw [decide_eq_false cv]; rfl))
theorem specSlot (c : List Int) (sl : List (List Int)) (hs : sl.length ≤ 1048577) (a : Int) : spec_l18Slot.f c sl a = some (decide (0 ≤ a ∧ a ≤ (sl.length : Int) - 1)) := by
 unfold spec_l18Slot.f
 rw [l1In_eq, w64 (by omega) (by omega)]
 rfl
structure Gate18 (c : List Int) (sl : List (List Int)) : Prop where
 len : 1 ≤ sl.length ∧ sl.length ≤ 12
 cap : c.length = sl.length
 room : Room c sl 0
 asc : ∀ j : Nat, j < sl.length → AscAt sl j
theorem Gate18.short {c : List Int} {sl : List (List Int)} (h : Gate18 c sl) : ∀ x ∈ sl, x.length ≤ 6 := by
 intro x hx
 obtain ⟨j, hj, rfl⟩ := List.getElem_of_mem hx
 have := h.room j (by omega) hj
 rw [slotAt sl j hj] at this
 omega
theorem Gate18.rise {c : List Int} {sl : List (List Int)} (h : Gate18 c sl) (j : Nat) (hj : j < sl.length) : (sl[j]'hj).Pairwise (· < ·) := by
 have := (h.asc j hj).1
 rw [slotAt sl j hj] at this
 exact rising _ this
theorem gate18 (c : List Int) (sl : List (List Int)) (hc : c.length ≤ 1048577) (hs : sl.length ≤ 1048577) (hx : ∀ x ∈ sl, x.length ≤ 1048577) : ∃ b : Bool, Ev (fun k => spec_l18Good.f k c sl) b ∧ Ev (fun k => impl_IsValidGate.f k c sl) b ∧ (b = true → Gate18 c sl) := by
 obtain ⟨b, b1, b2, b3⟩ := gateBoth c sl hc hs hx
 refine ⟨b, b1, b2, fun h => ?_⟩
 obtain ⟨h1, h2, h3, h4⟩ := b3 h
 subst h
 exact ⟨⟨h1, h2⟩, h3, h4, goodAsc c sl h2 h3 hx b1⟩
theorem absent {c : List Int} {sl : List (List Int)} {v : Int} (h : ∀ j : Nat, j < sl.length → v ∉ rd_L2 sl j) (m : Nat) (hm : m < sl.length) : v ∉ sl[m]'hm := by
 have := h m hm
 rwa [slotAt sl m hm] at this
theorem outOfRange (c : List Int) (sl : List (List Int)) (v : Int) (hv : ¬ (1 ≤ v ∧ v ≤ 99)) (m : Nat) (hm : m < sl.length) (h : v ∈ sl[m]'hm) : ¬ Gate18 c sl := by
 intro g
 have := (g.room m (Nat.zero_le _) hm).2.2 v (by rw [slotAt sl m hm]; exact h)
 exact hv this
theorem putAt_rise (s : List Int) (hr : s.Pairwise (· < ·)) (v : Int) (hv : v ∉ s) : (putAt s v).Pairwise (· < ·) := by
 have nd : (putAt s v).Nodup := by
  rw [(putAt_perm s v).nodup_iff, List.nodup_append]
  refine ⟨hr.imp fun q => by omega, List.pairwise_singleton _ _, fun x hx y hy e => hv ?_⟩
  rw [← List.mem_singleton.1 hy, ← e]
  exact hx
 exact ((putAt_sorted s v).and nd).imp fun q => by have := q.1; have := q.2; omega
theorem contains_eq (l : List Int) (hl : l.length ≤ 1000000000) (a : Int) : Ev (fun k => slices_Contains_int.f k l a) (decide (a ∈ l)) := by
 unfold slices_Contains_int.f slices_Index_int.f
 have main : ∀ d i : Nat, i + d = l.length → ∃ t : Int, Ev (fun k => slices_Index_int.l0 k l a l.length i) t ∧ (decide (t ≥ 0) = decide (a ∈ l.drop i)) := by
  intro d
  induction d with
  | zero =>
   intro i hi
   exact ⟨-1, Ev.step (fun k => slices_Index_int.l0.eq_2 ..) (Ev.neg (by omega) (Ev.now _)), by simp [List.drop_of_length_le (show l.length ≤ i by omega)]⟩
  | succ d ih =>
   intro i hi
   have w1 : wrap64 ((i : Int) + 1) = ((i + 1 : Nat) : Int) := by rw [w64 (by omega) (by omega)]; rfl
   have e : rd l (i : Int) = l[i]'(by omega) := by
    unfold rd
    rw [Int.toNat_natCast]
    exact getD_of (List.getElem?_eq_getElem (by omega))
   rw [List.drop_eq_getElem_cons (by omega)]
   by_cases c : a = l[i]'(by omega)
   ·refine ⟨i, Ev.step (fun k => slices_Index_int.l0.eq_2 ..) (Ev.pos (by omega) (Ev.pos (by omega) (Ev.pos (by omega) ?_))), by rw [decide_eq_true (show (i : Int) ≥ 0 by omega), decide_eq_true (List.mem_cons.2 (Or.inl c))]⟩
    rw [e]
    exact Ev.pos c (Ev.now _)
   ·obtain ⟨t, t1, t2⟩ := ih (i + 1) (by omega)
    refine ⟨t, Ev.step (fun k => slices_Index_int.l0.eq_2 ..) (Ev.pos (by omega) (Ev.pos (by omega) (Ev.pos (by omega) ?_))), by rw [t2]; exact decide_eq_decide.2 ⟨fun h => List.mem_cons_of_mem _ h, fun h => (List.mem_cons.1 h).resolve_left c⟩⟩
    rw [e, w1]
    exact Ev.neg c t1
 obtain ⟨t, t1, t2⟩ := main l.length 0 (by omega)
 refine Ev.bind t1 (Ev.eq (Ev.now _) ?_)
 rw [t2]
 rfl
theorem slot18 (c : List Int) (sl : List (List Int)) (hs : sl.length ≤ 1048577) (hx : ∀ x ∈ sl, x.length ≤ 1048577) (v : Int) : ∀ d i : Nat, i + d = sl.length → ∃ t : Int, Ev (fun k => slices_IndexFunc_int_76.l0 k sl sl.length i v) t ∧ Ev (fun k => spec_l18Find.l0 k v i c sl) t := by
 intro d
 induction d with
 | zero =>
  intro i hi
  exact ⟨-1, Ev.step (fun k => slices_IndexFunc_int_76.l0.eq_2 ..) (Ev.neg (by omega) (Ev.now _)), Ev.step (fun k => spec_l18Find.l0.eq_2 ..) (Ev.neg (by omega) (Ev.now _))⟩
 | succ d ih =>
  intro i hi
  have li : (i : Int) < sl.length := by omega
  have i0 : (0 : Int) ≤ i := by omega
  have w1 : wrap64 ((i : Int) + 1) = ((i + 1 : Nat) : Int) := by rw [w64 (by omega) (by omega)]; rfl
  have hl := hx _ (slotMem sl i (by omega))
  have ha := has_eq (rd_L2 sl i) (by omega) v
  have hb : Ev (fun k => impl_slotOfTruck_1.f k (rd_L2 sl i) v) (decide (v ∈ rd_L2 sl i)) := by
   unfold impl_slotOfTruck_1.f
   exact Ev.bind (contains_eq (rd_L2 sl i) (by omega) v) (Ev.now _)
  by_cases q : v ∈ rd_L2 sl i
  ·exact ⟨i, Ev.step (fun k => slices_IndexFunc_int_76.l0.eq_2 ..) (Ev.pos li (Ev.pos i0 (Ev.pos li (Ev.bind hb (Ev.pos (decide_eq_true q) (Ev.now _)))))), Ev.step (fun k => spec_l18Find.l0.eq_2 ..) (Ev.pos li (Ev.pos i0 (Ev.bind ha (Ev.pos (decide_eq_true q) (Ev.now _)))))⟩
  ·obtain ⟨t, h1, h2⟩ := ih (i + 1) (by omega)
   rw [← w1] at h1 h2
   exact ⟨t, Ev.step (fun k => slices_IndexFunc_int_76.l0.eq_2 ..) (Ev.pos li (Ev.pos i0 (Ev.pos li (Ev.bind hb (Ev.neg (fun h => q (of_decide_eq_true h)) h1))))), Ev.step (fun k => spec_l18Find.l0.eq_2 ..) (Ev.pos li (Ev.pos i0 (Ev.bind ha (Ev.neg (fun h => q (of_decide_eq_true h)) h2))))⟩
theorem noSlots (c : List Int) (sl : List (List Int)) : Ev (fun k => slices_ContainsFunc_int.f k [] c sl) false := by
  unfold slices_ContainsFunc_int.f slices_IndexFunc_int_87.f
  exact Ev.bind (Ev.step (fun k => slices_IndexFunc_int_87.l0.eq_2 ..) (Ev.neg (by simp) (Ev.now (-1)))) (Ev.eq (Ev.now _) rfl)
theorem slotFind (c : List Int) (sl : List (List Int)) (hs : sl.length ≤ 1048577) (hx : ∀ x ∈ sl, x.length ≤ 1048577) (v : Int) : ∃ t : Int, Ev (fun k => impl_slotOfTruck.f k c sl v) t ∧ Ev (fun k => spec_l18Find.f k c sl v) t ∧
  ((t = -1 ∧ ∀ j : Nat, j < sl.length → v ∉ rd_L2 sl j) ∨ ∃ m : Nat, t = m ∧ m < sl.length ∧ v ∈ rd_L2 sl m ∧ ∀ j : Nat, j < m → v ∉ rd_L2 sl j) := by
 obtain ⟨t, t1, t2⟩ := slot18 c sl hs hx v sl.length 0 (by omega)
 obtain ⟨t', t3, t4⟩ := find18 c sl hs hx v sl.length 0 (by omega)
 obtain rfl := Ev.funct t2 t3
 refine ⟨t, ?_, by unfold spec_l18Find.f; exact t2, ?_⟩
 ·unfold impl_slotOfTruck.f slices_IndexFunc_int_76.f
  exact Ev.bind t1 (Ev.now _)
 ·rcases t4 with ⟨e, h⟩ | ⟨m, e, _, m2, m3, h⟩
  ·exact .inl ⟨e, fun j hj => h j (by omega) hj⟩
  ·exact .inr ⟨m, e, m2, m3, fun j hj => h j (by omega) hj⟩
theorem putBoth (c : List Int) (sl : List (List Int)) (hc : c.length ≤ 1048577) (hs : sl.length ≤ 1048577) (hx : ∀ x ∈ sl, x.length ≤ 1048577) (v : Int) (m : Nat) (hm : m < sl.length) (hr : (sl[m]'hm).Pairwise (· < ·)) (hv : v ∉ sl[m]'hm) :
  impl_Gate_put.f c sl v m = some (sl.set m (putAt (sl[m]'hm) v)) ∧ Ev (fun k => spec_l18Book.f k c sl v m) (c, sl.set m (putAt (sl[m]'hm) v)) := by
 have hl := hx _ (List.getElem_mem hm)
 constructor
 ·unfold impl_Gate_put.f
  have e : sl.getD m [] = sl[m]'hm := getD_of (List.getElem?_eq_getElem hm)
  rw [if_pos (by omega), if_pos (by omega), Int.toNat_natCast, e, if_pos (by omega)]
  rfl
 ·unfold spec_l18Book.f
  refine Ev.bind (specOwnGate c sl hc hs hx) (Ev.pos (by omega) (Ev.pos (by show (m : Int) < (sl.length : Int); omega) ?_))
  rw [show rd_L2 (c, sl).2 (m : Int) = sl[m]'hm from slotAt sl m hm]
  refine Ev.bind (l1Put_eq _ hl hr v hv) (Ev.eq (Ev.now _) ?_)
  rw [Int.toNat_natCast]
theorem bookAt (c : List Int) (sl : List (List Int)) (g : Gate18 c sl) (v : Int) (hv : ∀ j : Nat, j < sl.length → v ∉ rd_L2 sl j) (m : Nat) (hm : m < sl.length) : ∃ (s' : List (List Int)) (b : Bool), s'.length = sl.length ∧ (∀ x ∈ s', x.length ≤ 8) ∧ Ev (fun k => impl_ownGate.f k c sl) (c, sl) ∧ impl_Gate_put.f c sl v m = some s' ∧
  Ev (fun k => spec_l18Book.f k c sl v m) (c, s') ∧ Ev (fun k => impl_IsValidGate.f k c s') b ∧ Ev (fun k => spec_l18Good.f k c s') b ∧ (b = true → Gate18 c s') ∧ (b = true → 1 ≤ v ∧ v ≤ 99) ∧ s' = sl.set m (putAt (sl[m]'hm) v) := by
 have h6 := g.short
 have gl := g.len
 have gc := g.cap
 have hx : ∀ x ∈ sl, x.length ≤ 1048577 := fun x h => by have := h6 x h; omega
 obtain ⟨p1, p2⟩ := putBoth c sl (by omega) (by omega) hx v m hm (g.rise m hm) (absent (c := c) hv m hm)
 have hx' := put_le sl (fun x h => by have := h6 x h; omega) m hm v
 obtain ⟨b, b1, b2, b3⟩ := gate18 c (sl.set m (putAt (sl[m]'hm) v)) (by omega) (by rw [List.length_set]; omega) (fun x h => by have := hx' x h; omega)
 refine ⟨_, b, List.length_set .., hx', implOwnGate c sl (by omega) (by omega) hx, p1, p2, b2, b1, b3, fun hb => ?_, rfl⟩
 by_cases q : 1 ≤ v ∧ v ≤ 99
 ·exact q
 ·refine absurd (b3 hb) (outOfRange _ _ v q m (by rw [List.length_set]; exact hm) ?_)
  rw [List.getElem_set_self, putAt_mem]
  exact .inr rfl
def Neat (m : Nat) (s : List (List Int)) : Prop := (∀ x ∈ s, x.Pairwise (· < ·)) ∧ ∀ x ∈ s, x.length ≤ m
theorem Neat.put {m : Nat} {s : List (List Int)} (h : Neat m s) (i : Nat) (hi : i < s.length) (v : Int) (hv : v ∉ s[i]'hi) : Neat (m + 1) (s.set i (putAt (s[i]'hi) v)) := by
 have q1 := h.1 _ (List.getElem_mem hi)
 have q2 := h.2 _ (List.getElem_mem hi)
 refine ⟨fun x hx => ?_, fun x hx => ?_⟩
 ·rcases List.mem_or_eq_of_mem_set hx with hx | hx
  ·exact h.1 x hx
  ·rw [hx]
   exact putAt_rise _ q1 v hv
 ·rcases List.mem_or_eq_of_mem_set hx with hx | hx
  ·have := h.2 x hx
   omega
  ·rw [hx, putAt_len]
   omega
theorem Neat.up {m m' : Nat} {s : List (List Int)} (h : Neat m s) (e : m ≤ m') : Neat m' s := ⟨h.1, fun x hx => Nat.le_trans (h.2 x hx) e⟩
structure FarG (m a : Int) (r : List Int × List (List Int) × Int × Int) : Prop where
 cap : r.1.length = r.2.1.length
 one : 1 ≤ r.2.1.length
 six : r.2.1.length ≤ 6
 neat : Neat 10 r.2.1
 lo : a ≤ r.2.2.1
 hi : r.2.2.1 ≤ a + m
theorem FarG.up {m m' a a' : Int} {r : List Int × List (List Int) × Int × Int} (h : FarG m a r) (h1 : a' ≤ a) (h2 : a + m ≤ a' + m') : FarG m' a' r := ⟨h.cap, h.one, h.six, h.neat, by have := h.lo; omega, by have := h.hi; omega⟩
theorem draw_gate_put {b : List Int} (hb : Bytes b) : ∀ (n : Nat) (c : List Int) (s : List (List Int)) (a z : Int) (m : Nat), c.length = s.length → 1 ≤ s.length → s.length ≤ 6 → Neat m s → m + n ≤ 10 → 0 ≤ a → a ≤ 100000000000000000 - 4 * n →
  Has (fun k => spec_l1Cur_gate.l1 k n b a z c s) (FarG (4 * n) a) := by
 intro n
 induction n with
 | zero =>
  intro c s a z m hc h1 h6 hm hn a0 a1
  exact Has.step (fun k => spec_l1Cur_gate.l1.eq_2 ..) (Has.neg (by omega) (Has.now ⟨hc, h1, h6, hm.up (by omega), Int.le_refl _, by simp only; omega⟩))
 | succ n ih =>
  intro c s a z m hc h1 h6 hm hn a0 a1
  have n1 : wrap64 (((n + 1 : Nat) : Int) - 1) = (n : Int) := by rw [w64 (by omega) (by omega)]; omega
  refine Has.step (fun k => spec_l1Cur_gate.l1.eq_2 ..) (Has.pos (by omega) ?_)
  rw [n1]
  refine Has.bind (pick hb z _ a0 (by omega)) fun i ⟨i0, i1, i2, i3, i4⟩ => ?_
  have i5 : i.1 < (s.length : Int) := by
   rcases Int.lt_or_le 1 (s.length : Int) with h | h
   ·exact i1 h
   ·have := i2 h
    omega
  obtain ⟨p, hp⟩ := Int.eq_ofNat_of_zero_le i0
  have lp : p < s.length := by omega
  refine Has.bind (pick hb i.2.2 20 (by omega) (by omega)) fun v ⟨_, _, _, v3, v4⟩ => ?_
  refine Has.pos i0 (Has.pos i5 (Has.pos (by omega) (Has.ite (fun _ => ?_) (fun _ => ?_))))
  ·have hx : ∀ x ∈ s, x.length ≤ 1048577 := fun x h => by have := hm.2 x h; omega
   obtain ⟨t, _, F, t4⟩ := slotFind c s (by omega) hx (wrap64 (1 + v.1))
   refine Has.ev F (Has.ite (fun ht => ?_) (fun _ => ?_))
   ·rcases t4 with ⟨_, hv⟩ | ⟨q, e, _⟩
    ·have nv := absent (c := c) hv p lp
     obtain ⟨_, q2⟩ := putBoth c s (by omega) (by omega) hx (wrap64 (1 + v.1)) p lp (hm.1 _ (List.getElem_mem lp)) nv
     rw [hp]
     refine Has.ev q2 (Has.mono (ih c _ v.2.1 v.2.2 (m + 1) (by rw [List.length_set]; exact hc) (by rw [List.length_set]; exact h1) (by rw [List.length_set]; exact h6) (hm.put p lp _ nv) (by omega) (by omega) (by omega)) fun r hr => hr.up (by omega) (by omega))
    ·omega
   ·exact Has.mono (ih c s v.2.1 v.2.2 m hc h1 h6 hm (by omega) (by omega) (by omega)) fun r hr => hr.up (by omega) (by omega)
  ·exact Has.mono (ih c s v.2.1 v.2.2 m hc h1 h6 hm (by omega) (by omega) (by omega)) fun r hr => hr.up (by omega) (by omega)
theorem draw_gate_at {b : List Int} (hb : Bytes b) : ∀ (n : Nat) (c : List Int) (s : List (List Int)) (a z : Int), c.length = s.length → 1 ≤ s.length + n → s.length + n ≤ 6 → (∀ x ∈ s, x = []) → 0 ≤ a → a ≤ 10000000000000000 - 4 * n →
  Has (fun k => spec_l1Cur_gate.l0 k n b a z c s) (FarG (4 * n + 50) a) := by
 intro n
 induction n with
 | zero =>
  intro c s a z hc h1 h6 hm a0 a1
  refine Has.step (fun k => spec_l1Cur_gate.l0.eq_2 ..) (Has.neg (by omega) (Has.bind (pick hb z 10 a0 (by omega)) fun i ⟨i0, i1, _, i3, i4⟩ => ?_))
  have i5 := i1 (by omega)
  obtain ⟨p, hp⟩ := Int.eq_ofNat_of_zero_le i0
  rw [hp]
  exact Has.mono (draw_gate_put hb p c s i.2.1 i.2.2 0 hc (by omega) (by omega) ⟨fun x hx => by rw [hm x hx]; exact List.Pairwise.nil, fun x hx => by rw [hm x hx]; simp⟩ (by omega) (by omega) (by omega)) fun r hr => hr.up (by omega) (by omega)
 | succ n ih =>
  intro c s a z hc h1 h6 hm a0 a1
  have n1 : wrap64 (((n + 1 : Nat) : Int) - 1) = (n : Int) := by rw [w64 (by omega) (by omega)]; omega
  refine Has.step (fun k => spec_l1Cur_gate.l0.eq_2 ..) (Has.pos (by omega) ?_)
  rw [n1]
  refine Has.bind (among hb z _ (by simp) a0 (by omega)) fun v ⟨_, v3, v4⟩ => ?_
  refine Has.pos (by omega) (Has.pos (by omega) (Has.mono (ih _ _ v.2.1 v.2.2 (by simp only [List.length_append, List.length_singleton]; omega) (by simp only [List.length_append, List.length_singleton]; omega) (by simp only [List.length_append, List.length_singleton]; omega) (fun x hx => ?_) (by omega) (by omega)) fun r hr => hr.up (by omega) (by omega)))
  rcases List.mem_append.1 hx with hx | hx
  ·exact hm x hx
  ·exact List.mem_singleton.1 hx
theorem draw_gate {b : List Int} (hb : Bytes b) {a : Int} (z : Int) (a0 : 0 ≤ a) (a1 : a ≤ 1000000000000000) : Has (fun k => spec_l1Cur_gate.f k b a z) (FarG 100 a) := by
 unfold spec_l1Cur_gate.f
 refine Has.bind (pick hb z 6 a0 (by omega)) fun i ⟨i0, i1, _, i3, i4⟩ => ?_
 have i5 := i1 (by omega)
 rw [show wrap64 (1 + i.1) = (((1 + i.1).toNat : Nat) : Int) from by rw [w64 (by omega) (by omega)]; omega]
 exact Has.mono (draw_gate_at hb (1 + i.1).toNat [] [] i.2.1 i.2.2 rfl (by simp; omega) (by simp; omega) (fun x hx => by cases hx) (by omega) (by omega)) fun r hr => hr.up (by omega) (by omega)
structure FarA (m a : Int) (r : List Int × List (List Int) × Int × Int) : Prop where
 cap : r.1.length ≤ 10
 len : r.2.1.length ≤ 10
 few : ∀ x ∈ r.2.1, x.length ≤ 12
 lo : a ≤ r.2.2.1
 hi : r.2.2.1 ≤ a + m
theorem least5 (n : Int) (h : n = 5 ∨ n = 6) : spec_l1Least.f n 5 = some 5 := by
 unfold spec_l1Least.f
 rw [if_neg (by omega)]
theorem draw_row {Q : List Int × List (List Int) × Int × Int → Prop} {b c : List Int} {s : List (List Int)} {a z n : Int} (hn : n = 5 ∨ n = 6) (j : Nat) (hj : j ≤ 5) (hc : c.length ≤ 10) (hs : s.length ≤ 10)
  (K : ∀ l : List Int, l.length ≤ 6 → Has (fun k => spec_l1Cur_anyGate.l0 k n ((j + 1 : Nat) : Int) b a z (c ++ [6]) (s ++ [l])) Q) : ∀ (d i : Nat) (l : List Int), i + d = 7 → l.length + 1 = i → Has (fun k => spec_l1Cur_anyGate.l1 k n j l i b a z c s) Q := by
 intro d
 have w1 : wrap64 ((j : Int) + 1) = ((j + 1 : Nat) : Int) := by rw [w64 (by omega) (by omega)]; rfl
 induction d with
 | zero =>
  intro i l hi hl
  refine Has.step (fun k => spec_l1Cur_anyGate.l1.eq_2 ..) (Has.const (least5 n hn) (Has.neg (by omega) (Has.neg (by omega) (Has.pos (by omega) (Has.pos (by omega) ?_)))))
  rw [w1]
  exact K l (by omega)
 | succ d ih =>
  intro i l hi hl
  have w2 : wrap64 ((i : Int) + 1) = ((i + 1 : Nat) : Int) := by rw [w64 (by omega) (by omega)]; rfl
  have more : ∀ v : Int, Has (fun k => spec_l1Cur_anyGate.l1 k n j (l ++ [v]) (wrap64 ((i : Int) + 1)) b a z c s) Q := fun v => by
   rw [w2]
   exact ih (i + 1) _ (by omega) (by rw [List.length_append, List.length_singleton]; omega)
  have stop : Has (fun k => if c.length < 17592186044416 then (if s.length < 5864062014805 then (spec_l1Cur_anyGate.l0 k n (wrap64 ((j : Int) + 1)) b a z (c ++ [6]) (s ++ [l])) else none) else none) Q := by
   refine Has.pos (by omega) (Has.pos (by omega) ?_)
   rw [w1]
   exact K l (by omega)
  refine Has.step (fun k => spec_l1Cur_anyGate.l1.eq_2 ..) (Has.const (least5 n hn) (Has.ite (fun _ => Has.pos (by omega) (more _)) (fun _ => Has.ite (fun _ => Has.ite (fun _ => Has.ite (fun _ => Has.pos (by omega) (more _)) (fun _ => stop)) (fun _ => stop)) (fun _ => stop))))
theorem draw_rows {b : List Int} {a z n : Int} (hn : n = 5 ∨ n = 6) : ∀ (d j : Nat) (c : List Int) (s : List (List Int)), j + d = 6 → c.length = j → s.length = j → (∀ x ∈ s, x.length ≤ 12) → Has (fun k => spec_l1Cur_anyGate.l0 k n j b a z c s) (FarA 0 a) := by
 intro d
 induction d with
 | zero =>
  intro j c s hj hc hs hx
  exact Has.step (fun k => spec_l1Cur_anyGate.l0.eq_2 ..) (Has.neg (by omega) (Has.now ⟨by simp only; omega, by simp only; omega, hx, Int.le_refl _, by simp only; omega⟩))
 | succ d ih =>
  intro j c s hj hc hs hx
  refine Has.step (fun k => spec_l1Cur_anyGate.l0.eq_2 ..) (Has.pos (by omega) (draw_row hn j (by omega) (by omega) (by omega) (fun l hl => ?_) 6 1 [] (by omega) rfl))
  refine ih (j + 1) _ _ (by omega) (by rw [List.length_append, List.length_singleton]; omega) (by rw [List.length_append, List.length_singleton]; omega) (fun x h => ?_)
  rcases List.mem_append.1 h with h | h
  ·exact hx x h
  ·rw [List.mem_singleton.1 h]
   omega
theorem draw_any {b : List Int} (hb : Bytes b) {a : Int} (z : Int) (a0 : 0 ≤ a) (a1 : a ≤ 100000000000000) : Has (fun k => spec_l1Cur_anyGate.f k b a z) (FarA 300 a) := by
 unfold spec_l1Cur_anyGate.f
 refine Has.bind (draw_gate hb z a0 (by omega)) fun g hg => ?_
 have g1 := hg.cap
 have g2 := hg.one
 have g3 := hg.six
 have g4 := hg.neat.2
 have g5 := hg.lo
 have g6 := hg.hi
 refine Has.bind (pick hb g.2.2.2 _ (by omega) (by omega)) fun i ⟨i0, i1, i2, i3, i4⟩ => ?_
 have i5 : i.1 < (g.2.1.length : Int) := by
  rcases Int.lt_or_le 1 (g.2.1.length : Int) with h | h
  ·exact i1 h
  ·have := i2 h
   omega
 obtain ⟨p, hp⟩ := Int.eq_ofNat_of_zero_le i0
 have lp : p < g.2.1.length := by omega
 have few : ∀ x ∈ g.2.1, x.length ≤ 12 := fun x h => by have := g4 x h; omega
 refine Has.bind (pick hb i.2.2 30 (by omega) (by omega)) fun t ⟨_, _, _, t3, t4⟩ => ?_
 refine Has.ite (fun _ => ?_) (fun _ => Has.ite (fun _ => ?_) (fun _ => Has.ite (fun _ => ?_) (fun _ => Has.ite (fun _ => ?_) (fun _ => ?_))))
 ·exact Has.bind (among hb t.2.2 _ (by simp) (by omega) (by omega)) fun v ⟨_, v3, v4⟩ => Has.pos i0 (Has.pos (by omega) (Has.now ⟨by simp only [List.length_set]; omega, by simp only; omega, few, by simp only; omega, by simp only; omega⟩))
 ·refine Has.pos i0 (Has.pos i5 (Has.bind (among hb t.2.2 _ (by simp) (by omega) (by omega)) fun v ⟨_, v3, v4⟩ => ?_))
  have e : rd_L2 g.2.1 i.1 = g.2.1[p]'lp := by rw [hp]; exact slotAt g.2.1 p lp
  have h10 := g4 _ (List.getElem_mem lp)
  rw [e]
  refine Has.pos (by omega) (Has.now ⟨by simp only; omega, by simp only [List.length_set]; omega, fun x h => ?_, by simp only; omega, by simp only; omega⟩)
  rcases List.mem_or_eq_of_mem_set h with h | h
  ·exact few x h
  ·rw [h, List.length_append, List.length_singleton]
   omega
 ·exact Has.pos (by omega) (Has.now ⟨by simp only; omega, by simp only [List.length_drop]; omega, fun x h => few x (List.mem_of_mem_drop h), by simp only; omega, by simp only; omega⟩)
 ·refine Has.bind (pick hb t.2.2 2 (by omega) (by omega)) fun v ⟨v0, v1, _, v3, v4⟩ => ?_
  have v5 := v1 (by omega)
  rw [show wrap64 (5 + v.1) = 5 + v.1 from w64 (by omega) (by omega)]
  exact Has.mono (draw_rows (n := 5 + v.1) (by omega) 6 0 [] [] (by omega) rfl rfl (fun x h => by cases h)) fun r hr => ⟨hr.cap, hr.len, hr.few, by have := hr.lo; omega, by have := hr.hi; omega⟩
 ·exact Has.now ⟨by simp only; omega, by simp only; omega, few, by simp only; omega, by simp only; omega⟩
theorem draw_slot {b : List Int} (hb : Bytes b) {a : Int} (z : Int) (c : List Int) (s : List (List Int)) (a0 : 0 ≤ a) (a1 : a ≤ 1000000000000000) : Has (fun _ => spec_l1Cur_slot18.f b a z c s) (fun r => a ≤ r.2.1 ∧ r.2.1 ≤ a + 10) := by
 unfold spec_l1Cur_slot18.f spec_l1Cur_one.f
 refine Has.bind (Has.bind (pick hb z 16 a0 (by omega)) fun i ⟨_, _, _, i3, i4⟩ => Has.now (Q := fun r : Bool × Int × Int => a ≤ r.2.1 ∧ r.2.1 ≤ a + 4) ⟨by simp only; omega, by simp only; omega⟩) fun i ⟨i3, i4⟩ => ?_
 refine Has.ite (fun _ => ?_) (fun _ => ?_)
 ·exact Has.bind (among hb i.2.2 _ (by simp) (by omega) (by omega)) fun v ⟨_, v3, v4⟩ => Has.now ⟨by simp only; omega, by simp only; omega⟩
 ·obtain ⟨m, hm⟩ : ∃ m, spec_l1Most.f (s.length : Int) 1 = some m := by
   unfold spec_l1Most.f
   split
   ·exact ⟨_, rfl⟩
   ·exact ⟨_, rfl⟩
  exact Has.const hm (Has.bind (pick hb i.2.2 m (by omega) (by omega)) fun v ⟨_, _, _, v3, v4⟩ => Has.now ⟨by simp only; omega, by simp only; omega⟩)
theorem draw_truck {b : List Int} (hb : Bytes b) {a : Int} (z : Int) (c : List Int) (s : List (List Int)) (hs : s.length ≤ 10) (hx : ∀ x ∈ s, x.length ≤ 12) (a0 : 0 ≤ a) (a1 : a ≤ 1000000000000000) : Has (fun k => spec_l1Cur_truck.f k b a z c s) (fun r => a ≤ r.2.1 ∧ r.2.1 ≤ a + 30) := by
 unfold spec_l1Cur_truck.f
 have other : ∀ (i a' z' : Int), a ≤ a' → a' ≤ a + 10 → Has (fun k => spec_l1Cur_truck.j0 k i false b a' z' c s) (fun r => a ≤ r.2.1 ∧ r.2.1 ≤ a + 30) := by
  intro i a' z' h1 h2
  refine Has.step (fun k => spec_l1Cur_truck.j0.eq_2 ..) (Has.neg (by simp) (Has.val (Has.bind (pick hb z' 24 (by omega) (by omega)) fun v ⟨v0, v1, _, v3, v4⟩ => ?_)))
  have v5 := v1 (by omega)
  have e1 : wrap64 (Int.tdiv v.1 11) = v.1 / 11 := by rw [Int.tdiv_eq_ediv_of_nonneg v0, w64 (by omega) (by omega)]
  have e2 : wrap64 (3 + v.1 / 11) = 3 + v.1 / 11 := w64 (by omega) (by omega)
  rw [e1, e2]
  refine Has.pos (by omega) (Has.pos (by simp only [List.length_cons, List.length_nil]; omega) (Has.bind (among hb v.2.2 _ ?_ (by omega) (by omega)) fun u ⟨_, u3, u4⟩ => Has.now ⟨by simp only; omega, by simp only; omega⟩))
  intro h
  have := congrArg List.length h
  rw [List.length_take] at this
  simp only [List.length_cons, List.length_nil] at this
  omega
 obtain ⟨m, hm⟩ : ∃ m, spec_l1Most.f (s.length : Int) 1 = some m := by
  unfold spec_l1Most.f
  split
  ·exact ⟨_, rfl⟩
  ·exact ⟨_, rfl⟩
 refine Has.const hm (Has.bind (pick hb z m a0 (by omega)) fun i ⟨i0, _, _, i3, i4⟩ => Has.ite (fun il => ?_) (fun _ => other _ _ _ i3 (by omega)))
 obtain ⟨p, hp⟩ := Int.eq_ofNat_of_zero_le i0
 have lp : p < s.length := by omega
 have e : rd_L2 s i.1 = s[p]'lp := by rw [hp]; exact slotAt s p lp
 have h12 := hx _ (List.getElem_mem lp)
 refine Has.pos i0 (Has.ite (fun pos => ?_) (fun _ => other _ _ _ i3 (by omega)))
 unfold spec_l1Cur_one.f
 refine Has.bind (Has.bind (pick hb i.2.2 5 (by omega) (by omega)) fun w ⟨_, _, _, w3, w4⟩ => Has.now (Q := fun r : Bool × Int × Int => i.2.1 ≤ r.2.1 ∧ r.2.1 ≤ i.2.1 + 4) ⟨by simp only; omega, by simp only; omega⟩) fun w ⟨w3, w4⟩ => ?_
 cases hw : !w.1 with
 | false => exact other _ _ _ (by omega) (by omega)
 | true =>
  refine Has.step (fun k => spec_l1Cur_truck.j0.eq_2 ..) (Has.pos rfl (Has.pos i0 (Has.pos il (Has.const (cloneInt _ (by rw [e]; omega)) (Has.bind (pick hb w.2.2 _ (by omega) (by omega)) fun v ⟨v0, v1, v2, v3, v4⟩ => ?_)))))
  have v5 : v.1 < ((rd_L2 s i.1).length : Int) := by
   rcases Int.lt_or_le 1 ((rd_L2 s i.1).length : Int) with h | h
   ·exact v1 h
   ·have := v2 h
    omega
  exact Has.pos v0 (Has.pos v5 (Has.now ⟨by simp only; omega, by simp only; omega⟩))
theorem rd1 (a : Int) : ∀ P : Int → Prop, (∀ j : Nat, j < ([a] : List Int).length → P (rd [a] j)) ↔ P a := by
 intro P
 constructor
 ·intro h
  exact h 0 (by simp)
 ·intro h j hj
  obtain rfl : j = 0 := by simp at hj; omega
  exact h
def sumC (c : List Int) : Nat → Int
 | 0 => 0
 | n + 1 => sumC c n + rd c n
def sumS (sl : List (List Int)) : Nat → Int
 | 0 => 0
 | n + 1 => sumS sl n + (rd_L2 sl n).length
theorem sumC_bd (c : List Int) (sl : List (List Int)) (hr : Room c sl 0) (n : Nat) (hn : n ≤ sl.length) : 0 ≤ sumC c n ∧ sumC c n ≤ 6 * n := by
 induction n with
 | zero => exact ⟨Int.le_refl _, Int.le_refl _⟩
 | succ n ih =>
  have h1 := ih (by omega)
  have h2 := (hr n (by omega) (by omega)).1
  unfold sumC
  omega
theorem sumS_bd (c : List Int) (sl : List (List Int)) (hr : Room c sl 0) (n : Nat) (hn : n ≤ sl.length) : 0 ≤ sumS sl n ∧ sumS sl n ≤ 6 * n := by
 induction n with
 | zero => exact ⟨Int.le_refl _, Int.le_refl _⟩
 | succ n ih =>
  have h1 := ih (by omega)
  have h2 := hr n (by omega) (by omega)
  unfold sumS
  omega
theorem sumOf18 (c : List Int) (sl : List (List Int)) (hs : sl.length ≤ 12) (hc : c.length = sl.length) (hr : Room c sl 0) : Ev (fun k => impl_sumOf.f k c) (sumC c c.length) := by
 unfold impl_sumOf.f
 have main : ∀ d i : Nat, i + d = c.length → Ev (fun k => impl_sumOf.l0 k (sumC c i) c c.length i) (sumC c c.length) := by
  intro d
  induction d with
  | zero =>
   intro i hi
   obtain rfl : i = c.length := by omega
   exact Ev.step (fun k => impl_sumOf.l0.eq_2 ..) (Ev.neg (by omega) (Ev.now _))
  | succ d ih =>
   intro i hi
   have li : (i : Int) < c.length := by omega
   have i0 : (0 : Int) ≤ i := by omega
   have b1 := sumC_bd c sl hr i (by omega)
   have b2 := (hr i (by omega) (by omega)).1
   have w1 : wrap64 ((i : Int) + 1) = ((i + 1 : Nat) : Int) := by rw [w64 (by omega) (by omega)]; rfl
   have w2 : wrap64 (sumC c i + rd c i) = sumC c (i + 1) := w64 (by omega) (by omega)
   have := ih (i + 1) (by omega)
   rw [← w1, ← w2] at this
   exact Ev.step (fun k => impl_sumOf.l0.eq_2 ..) (Ev.pos li (Ev.pos i0 (Ev.pos li this)))
 exact main c.length 0 (by omega)
theorem freeImpl (c : List Int) (sl : List (List Int)) (hs : sl.length ≤ 12) (hc : c.length = sl.length) (hr : Room c sl 0) (h : Ev (fun k => impl_IsValidGate.f k c sl) true) : Ev (fun k => impl_FreeShare.f k c sl) (sumC c c.length - sumS sl sl.length, sumC c c.length, true) := by
 have so := sumOf18 c sl hs hc hr
 have I : ∀ d i : Nat, i + d = sl.length → Ev (fun k => impl_FreeShare.l0 k (sumC c c.length - sumS sl i) sl sl.length i c sl) (sumC c c.length - sumS sl sl.length, sumC c c.length, true) := by
  intro d
  induction d with
  | zero =>
   intro i hi
   obtain rfl : i = sl.length := by omega
   exact Ev.step (fun k => impl_FreeShare.l0.eq_2 ..) (Ev.neg (by omega) (Ev.bind so (Ev.now _)))
  | succ d ih =>
   intro i hi
   have li : (i : Int) < sl.length := by omega
   have i0 : (0 : Int) ≤ i := by omega
   have q1 := sumC_bd c sl hr c.length (by omega)
   have q2 := hr i (by omega) (by omega)
   have q3 := sumS_bd c sl hr i (by omega)
   have w1 : wrap64 ((i : Int) + 1) = ((i + 1 : Nat) : Int) := by rw [w64 (by omega) (by omega)]; rfl
   have w3 : wrap64 (sumC c c.length - sumS sl i - (rd_L2 sl i).length) = sumC c c.length - sumS sl (i + 1) := by
    rw [show sumS sl (i + 1) = sumS sl i + (rd_L2 sl i).length from rfl]
    generalize sumC c c.length = a at *
    generalize sumS sl i = e at *
    rw [w64 (by omega) (by omega)]
    omega
   have := ih (i + 1) (by omega)
   rw [← w1, ← w3] at this
   exact Ev.step (fun k => impl_FreeShare.l0.eq_2 ..) (Ev.pos li (Ev.pos i0 (Ev.pos li this)))
 have I0 := I sl.length 0 (by omega)
 rw [show sumC c c.length - sumS sl 0 = sumC c c.length from by show _ - 0 = _; omega] at I0
 unfold impl_FreeShare.f
 exact Ev.bind h (Ev.pos rfl (Ev.bind so I0))
theorem truckAt (c : List Int) (sl : List (List Int)) (hc : c.length ≤ 1048577) (hs : sl.length ≤ 1048577) (hx : ∀ x ∈ sl, x.length ≤ 1048577) (v : Int) :
  (Ev (fun k => impl_TruckSlot.f k c sl v) (0, false) ∧ ((Ev (fun k => spec_l18Good.f k c sl) false) ∨ ∃ t : Int, t < 0 ∧ Ev (fun k => spec_l18Good.f k c sl) true ∧ Ev (fun k => spec_l18Find.f k c sl v) t)) ∨
  (∃ m : Nat, ∃ hm : m < sl.length, v ∈ sl[m]'hm ∧ (∀ j : Nat, j < m → v ∉ rd_L2 sl j) ∧ Ev (fun k => impl_TruckSlot.f k c sl v) ((m : Int), true) ∧ Ev (fun k => spec_l18Good.f k c sl) true ∧ Ev (fun k => spec_l18Find.f k c sl v) (m : Int)) := by
 obtain ⟨b, b1, b2, b3⟩ := gateBoth c sl hc hs hx
 obtain ⟨t, T, F, t4⟩ := slotFind c sl hs hx v
 unfold impl_TruckSlot.f impl_isGateFor.f
 by_cases cb : b = true
 ·subst cb
  obtain ⟨_, _, _, hr⟩ := b3 rfl
  rcases t4 with ⟨rfl, _⟩ | ⟨m, rfl, m2, m3, m4⟩
  ·refine .inl ⟨Ev.bind T ?_, .inr ⟨-1, by omega, b1, F⟩⟩
   by_cases cv : 1 ≤ v ∧ v ≤ 99
   ·exact Ev.bind (Ev.bind b2 (Ev.pos rfl (Ev.const (within_eq _ _ _) (Ev.pos (decide_eq_true cv) (Ev.bind (noSlots c sl) (Ev.now _)))))) (Ev.pos rfl (Ev.pos (by omega) (Ev.now _)))
   ·exact Ev.bind (Ev.bind b2 (Ev.pos rfl (Ev.const (within_eq _ _ _) (Ev.neg (fun h => cv (of_decide_eq_true h)) (Ev.now _))))) (Ev.neg (fun h => by cases h) (Ev.now _))
  ·have cv : 1 ≤ v ∧ v ≤ 99 := (hr m (by omega) m2).2.2 v m3
   refine .inr ⟨m, m2, ?_, m4, Ev.bind T (Ev.bind (Ev.bind b2 (Ev.pos rfl (Ev.const (within_eq _ _ _) (Ev.pos (decide_eq_true cv) (Ev.bind (noSlots c sl) (Ev.now _)))))) (Ev.pos rfl (Ev.neg (by omega) (Ev.now _)))), b1, F⟩
   have e : rd_L2 sl (m : Int) = sl[m]'m2 := by
    unfold rd_L2
    rw [Int.toNat_natCast]
    exact getD_of (List.getElem?_eq_getElem m2)
   rwa [e] at m3
 ·have cb' : b = false := by cases b <;> simp_all
  subst cb'
  exact .inl ⟨Ev.bind T (Ev.bind (Ev.bind b2 (Ev.neg (by simp) (Ev.now _))) (Ev.neg (fun h => by cases h) (Ev.now _))), .inl b1⟩
theorem rInts (xs : List Int) (hl : xs.length ≤ 1048577) : Ev (fun k => laws_rInts.f k xs xs) true := by
 unfold laws_rInts.f
 have main : ∀ d i : Nat, i + d = xs.length → Ev (fun k => laws_rInts.l0 k xs xs i) true := by
  intro d
  induction d with
  | zero =>
   intro i hi
   exact Ev.step (fun k => laws_rInts.l0.eq_2 ..) (Ev.neg (by omega) (Ev.now _))
  | succ d ih =>
   intro i hi
   refine Ev.step (fun k => laws_rInts.l0.eq_2 ..) (Ev.pos (by omega) (Ev.pos (by omega) (Ev.pos (by omega) (Ev.pos rfl ?_))))
   rw [show wrap64 ((i : Int) + 1) = ((i + 1 : Nat) : Int) from by rw [w64 (by omega) (by omega)]; rfl]
   exact ih (i + 1) (by omega)
 exact Ev.pos rfl (main xs.length 0 (by omega))
theorem good18 (c : List Int) (sl : List (List Int)) (g : Gate18 c sl) : Ev (fun k => spec_l18Good.f k c sl) (decide (sumS sl sl.length ≤ 30)) := by
 have gl := g.len
 have gc := g.cap
 have h6 := g.short
 have hx : ∀ x ∈ sl, x.length ≤ 1048577 := fun x h => by have := h6 x h; omega
 have ne : ((sl.length : Int) != (c.length : Int)) = false := by rw [gc]; simp
 have inner : ∀ i : Nat, i < sl.length → ∀ (L : Int) (r : Bool), Ev (fun k => spec_l18Good.l0 k (wrap64 (L + ((rd_L2 sl i).length : Int))) (wrap64 ((i : Int) + 1)) c sl) r → ∀ d j : Nat, j + d = (rd_L2 sl i).length → Ev (fun k => spec_l18Good.l1 k L i (rd_L2 sl i) j c sl) r := by
  intro i hi L r hr d
  obtain ⟨a1, a2⟩ := g.asc i hi
  have r6 := h6 _ (slotMem sl i hi)
  induction d with
  | zero =>
   intro j hj
   exact Ev.step (fun k => spec_l18Good.l1.eq_2 ..) (Ev.neg (by omega) hr)
  | succ d ih =>
   intro j hj
   have lj : (j : Int) < (rd_L2 sl i).length := by omega
   have j0 : (0 : Int) ≤ j := by omega
   have w1 : wrap64 ((j : Int) + 1) = ((j + 1 : Nat) : Int) := by rw [w64 (by omega) (by omega)]; rfl
   have vin : rd (rd_L2 sl i) j ∈ rd_L2 sl i := rd_mem _ j (by omega)
   have c1 := (g.room i (Nat.zero_le _) hi).2.2 _ vin
   obtain ⟨t, t1, t2⟩ := find18_at c sl (by omega) hx _ i hi vin
   have ct : t = (i : Int) := t2.2 (a2 _ vin)
   have go := ih (j + 1) (by omega)
   rw [← w1] at go
   refine Ev.step (fun k => spec_l18Good.l1.eq_2 ..) (Ev.pos lj (Ev.pos j0 (Ev.const (l1In_eq _ _ _) (Ev.pos (decide_eq_true c1) ?_))))
   by_cases cj : (j : Int) > 0
   ·have wj : wrap64 ((j : Int) - 1) = (j : Int) - 1 := w64 (by omega) (by omega)
    have ca : ¬ rd (rd_L2 sl i) ((j : Int) - 1) ≥ rd (rd_L2 sl i) j := Int.not_le.2 (a1 j (by omega) (by omega))
    refine Ev.pos cj ?_
    rw [wj]
    exact Ev.pos (by omega) (Ev.pos (by omega) (Ev.neg ca (Ev.bind t1 (Ev.pos ct go))))
   ·exact Ev.neg cj (Ev.bind t1 (Ev.pos ct go))
 have outer : ∀ d i : Nat, i + d = sl.length → Ev (fun k => spec_l18Good.l0 k (sumS sl i) i c sl) (decide (sumS sl sl.length ≤ 30)) := by
  intro d
  induction d with
  | zero =>
   intro i hi
   obtain rfl : i = sl.length := by omega
   exact Ev.step (fun k => spec_l18Good.l0.eq_2 ..) (Ev.neg (by omega) (Ev.now _))
  | succ d ih =>
   intro i hi
   have li : (i : Int) < sl.length := by omega
   have lc : (i : Int) < c.length := by omega
   have i0 : (0 : Int) ≤ i := by omega
   have rm := g.room i (Nat.zero_le _) (by omega)
   have bd := sumS_bd c sl g.room i (by omega)
   have w1 : wrap64 ((i : Int) + 1) = ((i + 1 : Nat) : Int) := by rw [w64 (by omega) (by omega)]; rfl
   have w2 : wrap64 (sumS sl i + ((rd_L2 sl i).length : Int)) = sumS sl (i + 1) := w64 (by omega) (by omega)
   have go := ih (i + 1) (by omega)
   rw [← w1, ← w2] at go
   exact Ev.step (fun k => spec_l18Good.l0.eq_2 ..) (Ev.pos li (Ev.pos i0 (Ev.pos lc (Ev.const (l1In_eq _ _ _) (Ev.pos (decide_eq_true rm.1) (Ev.step (fun k => spec_l18Good.j2.eq_2 ..) (Ev.neg (fun h => by have := of_decide_eq_true h; omega) (inner i (by omega) _ _ go (rd_L2 sl i).length 0 (by omega)))))))))
 unfold spec_l18Good.f
 exact Ev.const (l1In_eq _ _ _) (Ev.pos (decide_eq_true (by omega)) (Ev.step (fun k => spec_l18Good.j0.eq_2 ..) (Ev.neg (by rw [ne]; exact fun h => by cases h) (outer sl.length 0 (by omega)))))
theorem gateImpl (c : List Int) (sl : List (List Int)) (g : Gate18 c sl) (h : sumS sl sl.length ≤ 30) : Ev (fun k => impl_IsValidGate.f k c sl) true := by
 have gl := g.len
 have gc := g.cap
 have h6 := g.short
 obtain ⟨b, b1, b2, _⟩ := gate18 c sl (by omega) (by omega) (fun x h => by have := h6 x h; omega)
 have s := good18 c sl g
 rw [decide_eq_true h] at s
 obtain rfl := Ev.funct b1 s
 exact b2
theorem goodSum (c : List Int) (sl : List (List Int)) (g : Gate18 c sl) (h : Ev (fun k => spec_l18Good.f k c sl) true) : sumS sl sl.length ≤ 30 := of_decide_eq_true (Ev.funct (good18 c sl g) h)
theorem slotOf (c : List Int) (sl : List (List Int)) (g : Gate18 c sl) (h : Ev (fun k => spec_l18Good.f k c sl) true) (v : Int) (m : Nat) (hm : m < sl.length) (hv : v ∈ sl[m]'hm) : Ev (fun k => impl_TruckSlot.f k c sl v) ((m : Int), true) := by
 have gl := g.len
 have gc := g.cap
 have h6 := g.short
 have hx : ∀ x ∈ sl, x.length ≤ 1048577 := fun x h => by have := h6 x h; omega
 have hv' : v ∈ rd_L2 sl m := by rw [slotAt sl m hm]; exact hv
 rcases truckAt c sl (by omega) (by omega) hx v with ⟨_, i2⟩ | ⟨m0, hm0, mv, mf, i1, _, _⟩
 ·rcases i2 with q | ⟨t, ct, _, F⟩
  ·cases Ev.funct q h
  ·obtain ⟨t', t1, t2⟩ := find18_at c sl (by omega) hx v m hm hv'
   obtain rfl := Ev.funct F t1
   have := t2.2 ((g.asc m hm).2 v hv')
   omega
 ·have : m0 = m := by
   rcases Nat.lt_trichotomy m0 m with q | q | q
   ·exact absurd ⟨m0, q, by rw [slotAt sl m0 hm0]; exact mv⟩ ((g.asc m hm).2 v hv')
   ·exact q
   ·exact absurd hv' (mf m q)
  subst this
  exact i1
theorem rGates (c : List Int) (sl : List (List Int)) (hc : c.length ≤ 1048577) (hs : sl.length ≤ 1048577) (hx : ∀ x ∈ sl, x.length ≤ 1048577) : Ev (fun k => laws_rGates.f k c sl c sl) true := by
 unfold laws_rGates.f laws_rTable.f
 have main : ∀ d i : Nat, i + d = sl.length → Ev (fun k => laws_rTable.l0 k sl sl i) true := by
  intro d
  induction d with
  | zero =>
   intro i hi
   exact Ev.step (fun k => laws_rTable.l0.eq_2 ..) (Ev.neg (by omega) (Ev.now _))
  | succ d ih =>
   intro i hi
   have hr := rInts (rd_L2 sl i) (hx _ (slotMem sl i (by omega)))
   have w1 : wrap64 ((i : Int) + 1) = ((i + 1 : Nat) : Int) := by rw [w64 (by omega) (by omega)]; rfl
   have := ih (i + 1) (by omega)
   rw [← w1] at this
   exact Ev.step (fun k => laws_rTable.l0.eq_2 ..) (Ev.pos (by omega) (Ev.pos (by omega) (Ev.pos (by omega) (Ev.bind hr (Ev.pos rfl this)))))
 exact Ev.bind (rInts c hc) (Ev.pos rfl (Ev.bind (Ev.pos rfl (main sl.length 0 (by omega))) (Ev.now _)))
structure Booked (c : List Int) (sl : List (List Int)) (v a : Int) (c' : List Int) (s' : List (List Int)) : Prop where
 same : c' = c
 good : Gate18 c sl
 valid : Ev (fun k => impl_IsValidGate.f k c sl) true
 none_ : ∀ j : Nat, j < sl.length → v ∉ rd_L2 sl j
 in_ : 1 ≤ v ∧ v ≤ 99
 at_ : ∃ m : Nat, a = m ∧ ∃ hm : m < sl.length, s' = sl.set m (putAt (sl[m]'hm) v)
 good2 : Gate18 c s'
 spec2 : Ev (fun k => spec_l18Good.f k c s') true
 valid2 : Ev (fun k => impl_IsValidGate.f k c s') true
theorem bookSlot (c : List Int) (sl : List (List Int)) (hc : c.length ≤ 1048576) (hs : sl.length ≤ 1048576) (hx : ∀ x ∈ sl, x.length ≤ 1048576) (v a : Int) : ∃ (c' : List Int) (s' : List (List Int)) (b : Bool), Ev (fun k => spec_BookSlot.f k c sl v a) (c', s', b) ∧ Ev (fun k => impl_BookSlot.f k c sl v a) (c', s', b) ∧ c'.length ≤ 1048576 ∧ s'.length ≤ 1048576 ∧ (∀ x ∈ s', x.length ≤ 1048576) ∧ (b = true → Booked c sl v a c' s') := by
 have hx' : ∀ x ∈ sl, x.length ≤ 1048577 := fun x h => by have := hx x h; omega
 obtain ⟨b, b1, b2, b3⟩ := gate18 c sl (by omega) (by omega) hx'
 obtain ⟨t, T, F, t4⟩ := slotFind c sl (by omega) hx' v
 have G := gateFor c sl (by omega) b b2 v [a] (by simp)
 unfold spec_BookSlot.f impl_BookSlot.f
 have sj : ∀ z : Bool, z = true → Ev (fun k => spec_BookSlot.j0 k v a z c sl) (([] : List Int), ([] : List (List Int)), false) := fun z hz => Ev.step (fun k => spec_BookSlot.j0.eq_2 ..) (Ev.pos hz (Ev.now _))
 have ij : ∀ z : Bool, z = true → Ev (fun k => impl_BookSlot.j0 k v a z c sl) (([] : List Int), ([] : List (List Int)), false) := fun z hz => Ev.step (fun k => impl_BookSlot.j0.eq_2 ..) (Ev.pos hz (Ev.now _))
 have no : ∀ z : Bool, Ev (fun k => impl_isGateFor.f k c sl v [a]) z → (z = true → t ≥ 0) → Ev (fun k => (impl_isGateFor.f k c sl v ([a] : List Int)).bind fun t311 => (if t311 = true then ((impl_slotOfTruck.f k c sl v).bind fun t312 => (impl_BookSlot.j0 k v a (decide (t312 ≥ 0)) c sl)) else (impl_BookSlot.j0 k v a true c sl))) (([] : List Int), ([] : List (List Int)), false) := by
  intro z hz h
  refine Ev.bind hz ?_
  cases z with
  | false => exact Ev.neg (by simp) (ij _ rfl)
  | true => exact Ev.pos rfl (Ev.bind T (ij _ (decide_eq_true (h rfl))))
 by_cases cb : b = true
 ·subst cb
  have g := b3 rfl
  by_cases ca : 0 ≤ a ∧ a ≤ (sl.length : Int) - 1
  ·have sl1 := specSlot c sl (by omega) a
   rw [decide_eq_true ca] at sl1
   rcases t4 with ⟨rfl, hv⟩ | ⟨m, rfl, m2, m3, _⟩
   ·obtain ⟨m, rfl⟩ := Int.eq_ofNat_of_zero_le ca.1
    obtain ⟨s', r, s1, s2, s3, s4, s5, s6, s7, s9, s8, s10⟩ := bookAt c sl g v hv m (by omega)
    have S : ∀ q, Ev _ q → Ev (fun k => (spec_l18Good.f k c sl).bind fun t => (if t = true then ((spec_l18Slot.f c sl m).bind fun t => (if t = true then ((spec_l18Find.f k c sl v).bind fun t => (spec_BookSlot.j0 k v m (decide (t ≥ 0)) c sl)) else (spec_BookSlot.j0 k v m true c sl))) else (spec_BookSlot.j0 k v m true c sl))) q :=
     fun q hq => Ev.bind b1 (Ev.pos rfl (Ev.const sl1 (Ev.pos rfl (Ev.bind F (Ev.step (fun k => spec_BookSlot.j0.eq_2 ..) (Ev.neg (by simp) (Ev.bind s5 (Ev.bind s7 hq))))))))
    by_cases cv : 1 ≤ v ∧ v ≤ 99
    ·rw [decide_eq_true cv, decide_eq_true (show ∀ j : Nat, j < ([(m : Int)] : List Int).length → 0 ≤ rd [(m : Int)] j ∧ rd [(m : Int)] j ≤ (sl.length : Int) - 1 from (rd1 _ fun x => 0 ≤ x ∧ x ≤ (sl.length : Int) - 1).2 ca)] at G
     have I : ∀ q, Ev _ q → Ev (fun k => (impl_isGateFor.f k c sl v ([(m : Int)] : List Int)).bind fun t311 => (if t311 = true then ((impl_slotOfTruck.f k c sl v).bind fun t312 => (impl_BookSlot.j0 k v m (decide (t312 ≥ 0)) c sl)) else (impl_BookSlot.j0 k v m true c sl))) q :=
      fun q hq => Ev.bind G (Ev.pos rfl (Ev.bind T (Ev.step (fun k => impl_BookSlot.j0.eq_2 ..) (Ev.neg (by simp) (Ev.bind s3 (Ev.const s4 (Ev.bind s6 hq)))))))
     by_cases cr : r = true
     ·exact ⟨c, s', true, S _ (Ev.pos cr (Ev.now _)), I _ (Ev.pos cr (Ev.now _)), hc, by omega, fun x h => (by have := s2 x h; omega), fun _ => ⟨rfl, g, b2, hv, cv, ⟨m, rfl, by omega, s10⟩, s9 cr, cr ▸ s7, cr ▸ s6⟩⟩
     ·exact ⟨[], [], false, S _ (Ev.neg cr (Ev.now _)), I _ (Ev.neg cr (Ev.now _)), by simp, by simp, fun x h => (by cases h), fun h => by cases h⟩
    ·rw [decide_eq_false cv] at G
     have cr : ¬ r = true := fun h => cv (s8 h)
     exact ⟨[], [], false, S _ (Ev.neg cr (Ev.now _)), no _ G (fun h => by simp at h), by simp, by simp, fun x h => (by cases h), fun h => by cases h⟩
   ·refine ⟨[], [], false, Ev.bind b1 (Ev.pos rfl (Ev.const sl1 (Ev.pos rfl (Ev.bind F (sj _ (decide_eq_true (by omega))))))), no _ G (fun _ => by omega), by simp, by simp, fun x h => (by cases h), fun h => by cases h⟩
  ·have sl1 := specSlot c sl (by omega) a
   rw [decide_eq_false ca] at sl1
   rw [decide_eq_false (fun h => ca ((rd1 a fun x => 0 ≤ x ∧ x ≤ (sl.length : Int) - 1).1 h)), Bool.and_false] at G
   exact ⟨[], [], false, Ev.bind b1 (Ev.pos rfl (Ev.const sl1 (Ev.neg (by simp) (sj _ rfl)))), no _ G (fun h => by simp at h), by simp, by simp, fun x h => (by cases h), fun h => by cases h⟩
 ·have cb' : b = false := by cases b <;> simp_all
  subst cb'
  exact ⟨[], [], false, Ev.bind b1 (Ev.neg (by simp) (sj _ rfl)), no _ G (fun h => by simp at h), by simp, by simp, fun x h => (by cases h), fun h => by cases h⟩
theorem sumS_set (s : List (List Int)) (a : Nat) (ha : a < s.length) (x : List Int) : ∀ n : Nat, n ≤ s.length → sumS (s.set a x) n + (if a < n then ((s[a]'ha).length : Int) else 0) = sumS s n + (if a < n then (x.length : Int) else 0) := by
 intro n
 induction n with
 | zero => intro _; rfl
 | succ n ih =>
  intro hn
  have h := ih (by omega)
  have e : rd_L2 (s.set a x) n = if a = n then x else s[n]'(by omega) := by rw [slotAt _ n (by rw [List.length_set]; omega), List.getElem_set]
  have e2 := slotAt s n (by omega)
  unfold sumS
  rw [e, e2]
  by_cases q : a = n
  ·subst q
   rw [if_pos rfl, if_pos (by omega), if_pos (by omega)]
   rw [if_neg (by omega), if_neg (by omega)] at h
   omega
  ·rw [if_neg q]
   by_cases z : a < n
   ·rw [if_pos z, if_pos z] at h
    rw [if_pos (by omega), if_pos (by omega)]
    omega
   ·rw [if_neg z, if_neg z] at h
    rw [if_neg (by omega), if_neg (by omega)]
    omega
theorem specCancelAt (c : List Int) (sl : List (List Int)) (hc : c.length ≤ 1048577) (hs : sl.length ≤ 1048577) (hx : ∀ x ∈ sl, x.length ≤ 1048577) (v : Int) (m : Nat) (hm : m < sl.length) (hf : Ev (fun k => spec_l18Find.f k c sl v) (m : Int)) :
  Ev (fun k => spec_l18Cancel.f k c sl v) (c, sl.set m ((sl[m]'hm).filter fun x => !decide (x = v))) := by
 unfold spec_l18Cancel.f
 have hr := hx _ (List.getElem_mem hm)
 have m0 : (0 : Int) ≤ m := by omega
 have m1 : (m : Int) < sl.length := by omega
 have main : ∀ d i : Nat, i + d = (sl[m]'hm).length → Ev (fun k => spec_l18Cancel.l0 k v m (((sl[m]'hm).take i).filter fun x => !decide (x = v)) i c sl) (c, sl.set m ((sl[m]'hm).filter fun x => !decide (x = v))) := by
  intro d
  induction d with
  | zero =>
   intro i hi
   refine Ev.step (fun k => spec_l18Cancel.l0.eq_2 ..) (Ev.pos m0 (Ev.pos m1 ?_))
   rw [slotAt sl m hm]
   exact Ev.neg (by omega) (Ev.eq (Ev.now _) (by rw [Int.toNat_natCast, List.take_of_length_le (by omega)]))
  | succ d ih =>
   intro i hi
   have li : i < (sl[m]'hm).length := by omega
   have l1 : (i : Int) < (sl[m]'hm).length := by omega
   have i0 : (0 : Int) ≤ i := by omega
   have w1 : wrap64 ((i : Int) + 1) = ((i + 1 : Nat) : Int) := by rw [w64 (by omega) (by omega)]; rfl
   have er : rd (sl[m]'hm) (i : Int) = (sl[m]'hm)[i] := by
    unfold rd
    rw [Int.toNat_natCast]
    exact getD_of (List.getElem?_eq_getElem li)
   have lf : (((sl[m]'hm).take i).filter fun x => !decide (x = v)).length < 17592186044416 := by
    have h1 := List.length_filter_le (fun x => !decide (x = v)) ((sl[m]'hm).take i)
    rw [List.length_take] at h1
    omega
   have := ih (i + 1) (by omega)
   rw [List.take_succ_eq_append_getElem li, List.filter_append, ← w1] at this
   refine Ev.step (fun k => spec_l18Cancel.l0.eq_2 ..) (Ev.pos m0 (Ev.pos m1 ?_))
   rw [slotAt sl m hm]
   refine Ev.pos l1 (Ev.pos i0 ?_)
   rw [er]
   by_cases q : (sl[m]'hm)[i] = v
   ·rw [show [(sl[m]'hm)[i]].filter (fun x => !decide (x = v)) = [] from by simp [q], List.append_nil] at this
    exact Ev.pos q this
   ·rw [show [(sl[m]'hm)[i]].filter (fun x => !decide (x = v)) = [(sl[m]'hm)[i]] from by simp [q]] at this
    exact Ev.neg q (Ev.pos lf this)
 exact Ev.bind (specOwnGate c sl hc hs hx) (Ev.bind hf (main (sl[m]'hm).length 0 (by omega)))
theorem filter_le (sl : List (List Int)) (hx : ∀ x ∈ sl, x.length ≤ 1048576) (m : Nat) (hm : m < sl.length) (p : Int → Bool) : ∀ x ∈ sl.set m ((sl[m]'hm).filter p), x.length ≤ 1048576 := by
 intro x h
 rcases List.mem_or_eq_of_mem_set h with h | h
 ·exact hx x h
 ·rw [h]
  exact Nat.le_trans (List.length_filter_le _ _) (hx _ (List.getElem_mem hm))
theorem putAt_back (s : List Int) (hr : s.Pairwise (· < ·)) (v : Int) (hv : v ∉ s) : ((putAt s v).filter fun x => !decide (x = v)) = s := by
 refine sort_unique _ _ ((putAt_sorted s v).filter _) (hr.imp fun q => Int.le_of_lt q) ?_
 refine ((putAt_perm s v).filter _).trans ?_
 rw [List.filter_append]
 have e1 : ([v].filter fun x => !decide (x = v)) = [] := by simp
 have e2 : (s.filter fun x => !decide (x = v)) = s := List.filter_eq_self.2 fun x hx => by
  have : x ≠ v := fun e => hv (e ▸ hx)
  simp [this]
 rw [e1, e2, List.append_nil]
theorem bookedBack (c : List Int) (sl : List (List Int)) (v a : Int) (c' : List Int) (s' : List (List Int)) (h : Booked c sl v a c' s') : c' = c ∧ s'.length = sl.length ∧ sl.length ≤ 12 ∧ c.length = sl.length ∧ (∀ x ∈ sl, x.length ≤ 6) ∧ (∀ x ∈ s', x.length ≤ 6) ∧ Ev (fun k => impl_TruckSlot.f k c s' v) (a, true) ∧ Ev (fun k => impl_CancelTruck.f k c s' v) (c, sl, true) ∧ Ev (fun k => impl_MoveTruck.f k c s' v a) (c, s', true) ∧
  ∃ f o : Int, Ev (fun k => impl_FreeShare.f k c sl) (f, o, true) ∧ Ev (fun k => impl_FreeShare.f k c s') (f - 1, o, true) ∧ 0 ≤ f ∧ f ≤ 1000 := by
 obtain ⟨rfl, g, V, hv, cv, ⟨m, rfl, hm, hs⟩, g2, S2, V2⟩ := h
 have gl := g.len
 have gc := g.cap
 have h6 := g.short
 have h62 := g2.short
 have len : s'.length = sl.length := by rw [hs, List.length_set]
 have row := g.rise m hm
 have nv := absent (c := c') hv m hm
 have em : s'[m]'(by omega) = putAt (sl[m]'hm) v := by
  simp only [hs, List.getElem_set_self]
 have mv : v ∈ s'[m]'(by omega) := by
  rw [em, putAt_mem]
  exact .inr rfl
 have T := slotOf c' s' g2 S2 v m (by omega) mv
 have hx2 : ∀ x ∈ s', x.length ≤ 1048577 := fun x h => by have := h62 x h; omega
 have own := implOwnGate c' s' (by omega) (by omega) hx2
 have back : s'.set m ((s'[m]'(by omega)).filter fun x => !decide (x = v)) = sl := by
  rw [em, putAt_back _ row v nv, hs, List.set_set, List.set_getElem_self]
 have hd : impl_Gate_drop.f c' s' v m = some sl := by
  unfold impl_Gate_drop.f
  have e : s'.getD m [] = s'[m]'(by omega) := getD_of (List.getElem?_eq_getElem (by omega))
  rw [if_pos (by omega), if_pos (by omega), Int.toNat_natCast, e, if_pos (List.length_pos_of_mem mv)]
  exact congrArg some back
 have hp : impl_Gate_put.f c' sl v m = some s' := by
  have := putOne c' sl (fun x h => by have := h6 x h; omega) v m hm
  rw [← hs] at this
  exact this
 have G := gateFor c' s' (by omega) true V2 v [(m : Int)] (by simp)
 rw [decide_eq_true cv, decide_eq_true (show ∀ j : Nat, j < ([(m : Int)] : List Int).length → 0 ≤ rd [(m : Int)] j ∧ rd [(m : Int)] j ≤ (s'.length : Int) - 1 from (rd1 _ fun x => 0 ≤ x ∧ x ≤ (s'.length : Int) - 1).2 (by omega))] at G
 have F1 := freeImpl c' sl gl.2 gc g.room V
 have F2 := freeImpl c' s' (by omega) (by omega) g2.room V2
 have ss := sumS_set sl m hm (putAt (sl[m]'hm) v) sl.length (Nat.le_refl _)
 rw [if_pos hm, if_pos hm, putAt_len, ← hs] at ss
 have b1 := sumC_bd c' sl g.room sl.length (Nat.le_refl _)
 have b2 := sumS_bd c' sl g.room sl.length (Nat.le_refl _)
 have b3 : ∀ n : Nat, n ≤ sl.length → sumS sl n ≤ sumC c' n := by
  intro n
  induction n with
  | zero => intro _; exact Int.le_refl _
  | succ n ih =>
   intro hn
   have := ih (by omega)
   have := (g.room n (Nat.zero_le _) (by omega)).2.1
   unfold sumS sumC
   omega
 have b4 := b3 sl.length (Nat.le_refl _)
 rw [gc] at F1 F2
 rw [len] at F2
 have e : sumC c' sl.length - sumS s' sl.length = sumC c' sl.length - sumS sl sl.length - 1 := by omega
 rw [e] at F2
 refine ⟨rfl, len, gl.2, gc, h6, h62, T, ?_, ?_, _, _, F1, F2, by omega, by omega⟩
 ·unfold impl_CancelTruck.f
  exact Ev.bind T (Ev.pos rfl (Ev.bind own (Ev.const hd (Ev.now _))))
 ·unfold impl_MoveTruck.f
  exact Ev.bind T (Ev.pos rfl (Ev.bind G (Ev.step (fun k => impl_MoveTruck.j0.eq_2 ..) (Ev.neg (by simp) (Ev.bind own (Ev.const hd (Ev.const hp (Ev.bind V2 (Ev.pos rfl (Ev.now _))))))))))
theorem truckCancel (c : List Int) (sl : List (List Int)) (hc : c.length ≤ 1048576) (hs : sl.length ≤ 1048576) (hx : ∀ x ∈ sl, x.length ≤ 1048576) (v : Int) : ∃ (t : Int) (b : Bool) (c' : List Int) (s' : List (List Int)), Ev (fun k => impl_TruckSlot.f k c sl v) (t, b) ∧ Ev (fun k => spec_TruckSlot.f k c sl v) (t, b) ∧ Ev (fun k => impl_CancelTruck.f k c sl v) (c', s', b) ∧ Ev (fun k => spec_CancelTruck.f k c sl v) (c', s', b) ∧ c'.length ≤ 1048576 ∧ s'.length ≤ 1048576 ∧ ∀ x ∈ s', x.length ≤ 1048576 := by
 have hx' : ∀ x ∈ sl, x.length ≤ 1048577 := fun x h => by have := hx x h; omega
 unfold spec_CancelTruck.f impl_CancelTruck.f spec_TruckSlot.f
 rcases truckAt c sl (by omega) (by omega) hx' v with ⟨i1, i2⟩ | ⟨m, hm, mv, _, i1, g, F⟩
 ·rcases i2 with g | ⟨t, ct, g, F⟩
  ·exact ⟨0, false, [], [], i1, Ev.bind g (Ev.neg (by simp) (Ev.now _)), Ev.bind i1 (Ev.neg (by simp) (Ev.now _)), Ev.bind g (Ev.neg (by simp) (Ev.now _)), by simp, by simp, fun x h => by cases h⟩
  ·exact ⟨0, false, [], [], i1, Ev.bind g (Ev.pos rfl (Ev.bind F (Ev.pos ct (Ev.now _)))), Ev.bind i1 (Ev.neg (by simp) (Ev.now _)), Ev.bind g (Ev.pos rfl (Ev.bind F (Ev.pos ct (Ev.now _)))), by simp, by simp, fun x h => by cases h⟩
 ·have hd : impl_Gate_drop.f c sl v m = some (sl.set m ((sl[m]'hm).filter fun x => !decide (x = v))) := by
   unfold impl_Gate_drop.f
   have e : sl.getD m [] = sl[m]'hm := getD_of (List.getElem?_eq_getElem hm)
   rw [if_pos (by omega), if_pos (by omega), Int.toNat_natCast, e, if_pos (List.length_pos_of_mem mv)]
  exact ⟨m, true, c, _, i1, Ev.bind g (Ev.pos rfl (Ev.bind F (Ev.neg (by omega) (Ev.bind F (Ev.now _))))), Ev.bind i1 (Ev.pos rfl (Ev.bind (implOwnGate c sl (by omega) (by omega) hx') (Ev.const hd (Ev.now _)))), Ev.bind g (Ev.pos rfl (Ev.bind F (Ev.neg (by omega) (Ev.bind (specCancelAt c sl (by omega) (by omega) hx' v m hm F) (Ev.now _))))), hc, by rw [List.length_set]; exact hs, filter_le sl hx m hm _⟩
theorem rd2 (a b : Int) : ∀ P : Int → Prop, (∀ j : Nat, j < ([a, b] : List Int).length → P (rd [a, b] j)) ↔ P a ∧ P b := by
 intro P
 constructor
 ·intro h
  exact ⟨h 0 (by simp), h 1 (by simp)⟩
 ·rintro ⟨h1, h2⟩ j hj
  rcases Nat.lt_or_ge 0 j with q | q
  ·obtain rfl : j = 1 := by simp at hj; omega
   exact h2
  ·obtain rfl : j = 0 := by omega
   exact h1
theorem bookNo (c : List Int) (sl : List (List Int)) (hc : c.length ≤ 1048576) (hs : sl.length ≤ 1048576) (hx : ∀ x ∈ sl, x.length ≤ 1048576) (v a : Int) (t : Int) (ht : 0 ≤ t) (F : Ev (fun k => spec_l18Find.f k c sl v) t) : Ev (fun k => impl_BookSlot.f k c sl v a) (([] : List Int), ([] : List (List Int)), false) := by
 have hx' : ∀ x ∈ sl, x.length ≤ 1048577 := fun x h => by have := hx x h; omega
 obtain ⟨b, b1, b2, b3⟩ := gate18 c sl (by omega) (by omega) hx'
 obtain ⟨t', T, F', _⟩ := slotFind c sl (by omega) hx' v
 obtain rfl := Ev.funct F F'
 have G := gateFor c sl (by omega) b b2 v [a] (by simp)
 have ij : ∀ z : Bool, z = true → Ev (fun k => impl_BookSlot.j0 k v a z c sl) (([] : List Int), ([] : List (List Int)), false) := fun z hz => Ev.step (fun k => impl_BookSlot.j0.eq_2 ..) (Ev.pos hz (Ev.now _))
 unfold impl_BookSlot.f
 refine Ev.bind G (Ev.ite (fun _ => Ev.bind T (ij _ (decide_eq_true (by omega)))) (fun _ => ij _ rfl))
theorem bookYes (c : List Int) (sl : List (List Int)) (g : Gate18 c sl) (v : Int) (cv : 1 ≤ v ∧ v ≤ 99) (hv : ∀ j : Nat, j < sl.length → v ∉ rd_L2 sl j) (m : Nat) (hm : m < sl.length) (b0 : Ev (fun k => impl_IsValidGate.f k c sl) true) (T : Ev (fun k => impl_slotOfTruck.f k c sl v) (-1)) (s' : List (List Int)) (r : Bool)
  (s3 : Ev (fun k => impl_ownGate.f k c sl) (c, sl)) (s4 : impl_Gate_put.f c sl v m = some s') (s6 : Ev (fun k => impl_IsValidGate.f k c s') r) : Ev (fun k => impl_BookSlot.f k c sl v m) (if r = true then (c, s', true) else (([] : List Int), ([] : List (List Int)), false)) := by
 have gl := g.len
 have G := gateFor c sl (by omega) true b0 v [(m : Int)] (by simp)
 have ca : 0 ≤ (m : Int) ∧ (m : Int) ≤ (sl.length : Int) - 1 := by omega
 rw [decide_eq_true cv, decide_eq_true (show ∀ j : Nat, j < ([(m : Int)] : List Int).length → 0 ≤ rd [(m : Int)] j ∧ rd [(m : Int)] j ≤ (sl.length : Int) - 1 from (rd1 _ fun x => 0 ≤ x ∧ x ≤ (sl.length : Int) - 1).2 ca)] at G
 unfold impl_BookSlot.f
 refine Ev.bind G (Ev.pos rfl (Ev.bind T (Ev.step (fun k => impl_BookSlot.j0.eq_2 ..) (Ev.neg (by simp) (Ev.bind s3 (Ev.const s4 (Ev.bind s6 ?_)))))))
 cases r with
 | true => exact Ev.pos rfl (Ev.now _)
 | false => exact Ev.neg (by simp) (Ev.now _)
structure Early (c : List Int) (sl : List (List Int)) (a u : Int) : Prop where
 cap : c.length = sl.length
 len : sl.length ≤ 12
 lo : 0 ≤ a
 hi : u < (sl.length : Int)
 full : ∀ j : Nat, a ≤ (j : Int) → (j : Int) < u → ((rd_L2 sl j).length : Int) = rd c j
theorem bookEarliest (c : List Int) (sl : List (List Int)) (hc : c.length ≤ 1048576) (hs : sl.length ≤ 1048576) (hx : ∀ x ∈ sl, x.length ≤ 1048576) (v a z : Int) : ∃ (c' : List Int) (s' : List (List Int)) (u : Int) (b : Bool), Ev (fun k => spec_BookEarliest.f k c sl v a z) (c', s', u, b) ∧ Ev (fun k => impl_BookEarliest.f k c sl v a z) (c', s', u, b) ∧ c'.length ≤ 1048576 ∧ s'.length ≤ 1048576 ∧ (∀ x ∈ s', x.length ≤ 1048576) ∧ (b = true → Early c sl a u) := by
 have hx' : ∀ x ∈ sl, x.length ≤ 1048577 := fun x h => by have := hx x h; omega
 obtain ⟨b, b1, b2, b3⟩ := gate18 c sl (by omega) (by omega) hx'
 obtain ⟨t, T, F, t4⟩ := slotFind c sl (by omega) hx' v
 have G := gateFor c sl (by omega) b b2 v [a, z] (by simp)
 have sa := specSlot c sl (by omega) a
 have sz := specSlot c sl (by omega) z
 have sj : ∀ y : Bool, y = true → Ev (fun k => spec_BookEarliest.j0 k v a z y c sl) (([] : List Int), ([] : List (List Int)), (0 : Int), false) := fun y hy => Ev.step (fun k => spec_BookEarliest.j0.eq_2 ..) (Ev.pos hy (Ev.now _))
 unfold spec_BookEarliest.f impl_BookEarliest.f
 by_cases cb : b = true
 ·subst cb
  have g := b3 rfl
  have gl := g.len
  have gc := g.cap
  by_cases ca : 0 ≤ a ∧ a ≤ (sl.length : Int) - 1
  ·by_cases cz : 0 ≤ z ∧ z ≤ (sl.length : Int) - 1
   ·have both : ∀ j : Nat, j < ([a, z] : List Int).length → 0 ≤ rd [a, z] j ∧ rd [a, z] j ≤ (sl.length : Int) - 1 := (rd2 a z fun x => 0 ≤ x ∧ x ≤ (sl.length : Int) - 1).2 ⟨ca, cz⟩
    rw [decide_eq_true both, Bool.and_true, Bool.true_and] at G
    rw [decide_eq_true ca] at sa
    rw [decide_eq_true cz] at sz
    obtain ⟨e, rfl⟩ := Int.eq_ofNat_of_zero_le cz.1
    have room : ∀ i : Nat, i < sl.length → ((sl[i]?.getD []).length : Int) ≤ rd c i := fun i hi => by
     have := (g.room i (Nat.zero_le _) hi).2.1
     rw [slotAt sl i hi] at this
     rw [List.getElem?_eq_getElem hi]
     exact this
    rcases t4 with ⟨rfl, hv⟩ | ⟨q, rfl, q2, q3, _⟩
    ·
     have main : ∀ d i : Nat, i + d = e + 1 → ∃ (c' : List Int) (s' : List (List Int)) (u : Int) (r : Bool), Ev (fun k => spec_BookEarliest.l0 k v e i c sl) (c', s', u, r) ∧ ((1 ≤ v ∧ v ≤ 99) → Ev (fun k => impl_BookEarliest.l0 k v e i c sl) (c', s', u, r)) ∧ (¬ (1 ≤ v ∧ v ≤ 99) → c' = [] ∧ s' = [] ∧ u = 0 ∧ r = false) ∧ c'.length ≤ 1048576 ∧ s'.length ≤ 1048576 ∧ (∀ x ∈ s', x.length ≤ 1048576) ∧ (r = true → u < (sl.length : Int) ∧ ∀ j : Nat, i ≤ j → (j : Int) < u → ((rd_L2 sl j).length : Int) = rd c j) := by
      intro d
      induction d with
      | zero =>
       intro i hi
       exact ⟨[], [], 0, false, Ev.step (fun k => spec_BookEarliest.l0.eq_2 ..) (Ev.neg (by omega) (Ev.now _)), fun _ => Ev.step (fun k => impl_BookEarliest.l0.eq_2 ..) (Ev.neg (by omega) (Ev.now _)), fun _ => ⟨rfl, rfl, rfl, rfl⟩, by simp, by simp, fun x h => (by cases h), fun h => by cases h⟩
      | succ d ih =>
       intro i hi
       have li : (i : Int) ≤ (e : Int) := by omega
       have i0 : (0 : Int) ≤ i := by omega
       have il : i < sl.length := by omega
       have il' : (i : Int) < sl.length := by omega
       have ic : (i : Int) < c.length := by omega
       have rm := (g.room i (Nat.zero_le _) il).2.1
       have hb1 : -9223372036854775808 ≤ (i : Int) + 1 := by omega
       have hb2 : (i : Int) + 1 ≤ 9223372036854775807 := by omega
       have hd : i + 1 + d = e + 1 := by omega
       by_cases full : ((rd_L2 sl i).length : Int) = rd c i
       ·obtain ⟨c', s', u, r, x1, x2, x3, x4, x5, x6, x7⟩ := ih (i + 1) hd
        have w1 : wrap64 ((i : Int) + 1) = ((i + 1 : Nat) : Int) := by rw [w64 hb1 hb2]; rfl
        rw [← w1] at x1 x2
        exact ⟨c', s', u, r, Ev.step (fun k => spec_BookEarliest.l0.eq_2 ..) (Ev.pos li (Ev.pos i0 (Ev.pos il' (Ev.pos ic (Ev.pos full x1))))), fun cv => Ev.step (fun k => impl_BookEarliest.l0.eq_2 ..) (Ev.pos li (Ev.pos i0 (Ev.pos il' (Ev.pos ic (Ev.neg (by rw [full]; exact Int.lt_irrefl _) (x2 cv)))))), x3, x4, x5, x6, fun h => ⟨(x7 h).1, fun j h1 h2 => by
         rcases Nat.lt_or_ge i j with q | q
         ·exact (x7 h).2 j q h2
         ·obtain rfl : j = i := Nat.le_antisymm q h1
          exact full⟩⟩
       ·have free : ((rd_L2 sl i).length : Int) < rd c i := by omega
        obtain ⟨s', r, s1, s2, s3, s4, s5, s6, s7, _, s8, _⟩ := bookAt c sl g v hv i il
        have S : ∀ q, Ev _ q → Ev (fun k => spec_BookEarliest.l0 k v e i c sl) q := fun q hq => Ev.step (fun k => spec_BookEarliest.l0.eq_2 ..) (Ev.pos li (Ev.pos i0 (Ev.pos il' (Ev.pos ic (Ev.neg full (Ev.bind s5 (Ev.bind s7 hq)))))))
        by_cases cv : 1 ≤ v ∧ v ≤ 99
        ·have B := bookYes c sl g v cv hv i il b2 T s' r s3 s4 s6
         have I : ∀ q, Ev _ q → Ev (fun k => impl_BookEarliest.l0 k v e i c sl) q := fun q hq => Ev.step (fun k => impl_BookEarliest.l0.eq_2 ..) (Ev.pos li (Ev.pos i0 (Ev.pos il' (Ev.pos ic (Ev.pos free (Ev.bind B hq))))))
         by_cases cr : r = true
         ·subst cr
          exact ⟨c, s', i, true, S _ (Ev.pos rfl (Ev.now _)), fun _ => I _ (Ev.pos rfl (Ev.now _)), fun h => absurd cv h, hc, by omega, fun x h => (by have := s2 x h; omega), fun _ => ⟨il', fun j h1 h2 => by omega⟩⟩
         ·have cr' : r = false := by cases r <;> simp_all
          subst cr'
          exact ⟨[], [], 0, false, S _ (Ev.neg (by simp) (Ev.now _)), fun _ => I _ (Ev.neg (by simp) (Ev.now _)), fun _ => ⟨rfl, rfl, rfl, rfl⟩, by simp, by simp, fun x h => (by cases h), fun h => by cases h⟩
        ·exact ⟨[], [], 0, false, S _ (Ev.neg (fun h => cv (s8 h)) (Ev.now _)), fun h => absurd h cv, fun _ => ⟨rfl, rfl, rfl, rfl⟩, by simp, by simp, fun x h => (by cases h), fun h => by cases h⟩
     have S : ∀ q, Ev (fun k => spec_BookEarliest.l0 k v e a c sl) q → Ev (fun k => (spec_l18Good.f k c sl).bind fun t => (if t = true then ((spec_l18Slot.f c sl a).bind fun t => (if t = true then ((spec_l18Slot.f c sl e).bind fun t => (if t = true then ((spec_l18Find.f k c sl v).bind fun t => (spec_BookEarliest.j0 k v a e (decide (t ≥ 0)) c sl)) else (spec_BookEarliest.j0 k v a e true c sl))) else (spec_BookEarliest.j0 k v a e true c sl))) else (spec_BookEarliest.j0 k v a e true c sl))) q :=
      fun q hq => Ev.bind b1 (Ev.pos rfl (Ev.const sa (Ev.pos rfl (Ev.const sz (Ev.pos rfl (Ev.bind F (Ev.step (fun k => spec_BookEarliest.j0.eq_2 ..) (Ev.neg (by simp) hq))))))))
     obtain ⟨p, rfl⟩ := Int.eq_ofNat_of_zero_le ca.1
     by_cases pe : p ≤ e + 1
     ·obtain ⟨c', s', u, r, x1, x2, x3, x4, x5, x6, x7⟩ := main (e + 1 - p) p (by omega)
      by_cases cv : 1 ≤ v ∧ v ≤ 99
      ·rw [decide_eq_true cv] at G
       exact ⟨c', s', u, r, S _ x1, Ev.bind G (Ev.pos rfl (x2 cv)), x4, x5, x6, fun h => ⟨gc, gl.2, ca.1, (x7 h).1, fun j h1 h2 => (x7 h).2 j (by omega) h2⟩⟩
      ·rw [decide_eq_false cv] at G
       obtain ⟨rfl, rfl, rfl, rfl⟩ := x3 cv
       exact ⟨[], [], 0, false, S _ x1, Ev.bind G (Ev.neg (by simp) (Ev.now _)), x4, x5, x6, fun h => by cases h⟩
     ·refine ⟨[], [], 0, false, S _ (Ev.step (fun k => spec_BookEarliest.l0.eq_2 ..) (Ev.neg (by omega) (Ev.now _))), Ev.bind G (Ev.ite (fun _ => Ev.step (fun k => impl_BookEarliest.l0.eq_2 ..) (Ev.neg (by omega) (Ev.now _))) (fun _ => Ev.now _)), by simp, by simp, fun x h => (by cases h), fun h => by cases h⟩
    ·
     refine ⟨[], [], 0, false, Ev.bind b1 (Ev.pos rfl (Ev.const sa (Ev.pos rfl (Ev.const sz (Ev.pos rfl (Ev.bind F (sj _ (decide_eq_true (by omega))))))))), Ev.bind G (Ev.ite (fun _ => ?_) (fun _ => Ev.now _)), by simp, by simp, fun x h => (by cases h), fun h => by cases h⟩
     have B := fun m : Int => bookNo c sl hc hs hx v m q (by omega) F
     have main : ∀ d i : Nat, i + d = e + 1 → Ev (fun k => impl_BookEarliest.l0 k v e i c sl) (([] : List Int), ([] : List (List Int)), (0 : Int), false) := by
      intro d
      induction d with
      | zero => exact fun i hi => Ev.step (fun k => impl_BookEarliest.l0.eq_2 ..) (Ev.neg (by omega) (Ev.now _))
      | succ d ih =>
       intro i hi
       have li : (i : Int) ≤ (e : Int) := by omega
       have i0 : (0 : Int) ≤ i := by omega
       have il' : (i : Int) < sl.length := by omega
       have ic : (i : Int) < c.length := by omega
       have hb1 : -9223372036854775808 ≤ (i : Int) + 1 := by omega
       have hb2 : (i : Int) + 1 ≤ 9223372036854775807 := by omega
       have := ih (i + 1) (by omega)
       have w1 : wrap64 ((i : Int) + 1) = ((i + 1 : Nat) : Int) := by rw [w64 hb1 hb2]; rfl
       rw [← w1] at this
       exact Ev.step (fun k => impl_BookEarliest.l0.eq_2 ..) (Ev.pos li (Ev.pos i0 (Ev.pos il' (Ev.pos ic (Ev.ite (fun _ => Ev.bind (B i) (Ev.neg (by simp) (Ev.now _))) (fun _ => this))))))
     obtain ⟨p, rfl⟩ := Int.eq_ofNat_of_zero_le ca.1
     by_cases pe : p ≤ e + 1
     ·exact main (e + 1 - p) p (by omega)
     ·exact Ev.step (fun k => impl_BookEarliest.l0.eq_2 ..) (Ev.neg (by omega) (Ev.now _))
   ·rw [decide_eq_true ca] at sa
    rw [decide_eq_false cz] at sz
    rw [decide_eq_false (fun h => cz ((rd2 a z fun x => 0 ≤ x ∧ x ≤ (sl.length : Int) - 1).1 h).2), Bool.and_false, Bool.and_false] at G
    exact ⟨[], [], 0, false, Ev.bind b1 (Ev.pos rfl (Ev.const sa (Ev.pos rfl (Ev.const sz (Ev.neg (by simp) (sj _ rfl)))))), Ev.bind G (Ev.neg (by simp) (Ev.now _)), by simp, by simp, fun x h => (by cases h), fun h => by cases h⟩
  ·rw [decide_eq_false ca] at sa
   rw [decide_eq_false (fun h => ca ((rd2 a z fun x => 0 ≤ x ∧ x ≤ (sl.length : Int) - 1).1 h).1), Bool.and_false, Bool.and_false] at G
   exact ⟨[], [], 0, false, Ev.bind b1 (Ev.pos rfl (Ev.const sa (Ev.neg (by simp) (sj _ rfl)))), Ev.bind G (Ev.neg (by simp) (Ev.now _)), by simp, by simp, fun x h => (by cases h), fun h => by cases h⟩
 ·have cb' : b = false := by cases b <;> simp_all
  subst cb'
  exact ⟨[], [], 0, false, Ev.bind b1 (Ev.neg (by simp) (sj _ rfl)), Ev.bind G (Ev.neg (by simp) (Ev.now _)), by simp, by simp, fun x h => (by cases h), fun h => by cases h⟩
theorem draw_six {b : List Int} (hb : Bytes b) {a : Int} (z : Int) (h0 : 0 ≤ a) (h1 : a ≤ 1000) : Has (fun _ => spec_l1Cur_among.f b a z ([50,21,99,1,0,100] : List Int)) (fun r => 0 ≤ r.2.1 ∧ r.2.1 ≤ a + 10) := Has.mono (among hb z _ (by simp) h0 (by omega)) fun r ⟨_, r2, r3⟩ => ⟨by omega, by omega⟩
theorem bookLaw3 {b : List Int} (hb : Bytes b) : Has (fun k => laws_FnBooking.f3 k b) (fun r => r = true) := by
 unfold laws_FnBooking.f3
 have dr : Has (fun k => spec_DrawTruckSlot.f k b) (fun r => r.1.length ≤ 10 ∧ r.2.1.length ≤ 10 ∧ ∀ x ∈ r.2.1, x.length ≤ 12) := by
  unfold spec_DrawTruckSlot.f
  refine Has.bind (draw_any hb 0 (by omega) (by omega)) fun r hr => ?_
  have lo := hr.lo
  have hi := hr.hi
  exact Has.bind (draw_truck hb r.2.2.2 r.1 r.2.1 hr.len hr.few (by omega) (by omega)) fun t _ => Has.now ⟨hr.cap, hr.len, hr.few⟩
 refine Has.bind dr fun x ⟨x1, x2, x3⟩ => ?_
 obtain ⟨t, ok, c, s, r1, r2, r3, r4, c1, s1, s2⟩ := truckCancel x.1 x.2.1 (by omega) (by omega) (fun y h => by have := x3 y h; omega) x.2.2
 exact Has.ev r1 (Has.ev r3 (Has.ev r2 (Has.ev r4 (Has.pos rfl (Has.pos rfl (Has.pos rfl (Has.pos rfl (Has.of (rGates c s (by omega) (by omega) (fun y h => by have := s2 y h; omega)) rfl))))))))
theorem bookScan (c : List Int) (sl : List (List Int)) (a u : Int) (h : Early c sl a u) : ∀ d i : Nat, (i : Int) + d = u ∨ (u ≤ i ∧ d = 0) → a ≤ (i : Int) → Ev (fun k => laws_FnBooking.scan k u true i c sl) 0 := by
 obtain ⟨cap, len, lo, hi, full⟩ := h
 intro d
 induction d with
 | zero =>
  intro i hi _
  exact Ev.step (fun k => laws_FnBooking.scan.eq_2 ..) (Ev.pos rfl (Ev.neg (by omega) (Ev.now _)))
 | succ d ih =>
  intro i hi' ha
  have f := full i ha (by omega)
  have w1 : wrap64 ((i : Int) + 1) = ((i + 1 : Nat) : Int) := by rw [w64 (by omega) (by omega)]; rfl
  have go := ih (i + 1) (by omega) (by omega)
  rw [← w1] at go
  exact Ev.step (fun k => laws_FnBooking.scan.eq_2 ..) (Ev.pos rfl (Ev.pos (by omega) (Ev.pos (by omega) (Ev.pos (by omega) (Ev.pos (by omega) (Ev.neg (by omega) go))))))
theorem bookLaw2 {b : List Int} (hb : Bytes b) : Has (fun k => laws_FnBooking.f2 k b) (fun r => r = true) := by
 unfold laws_FnBooking.f2
 have dr : Has (fun k => spec_DrawBookEarliest.f k b) (fun r => r.1.length ≤ 10 ∧ r.2.1.length ≤ 10 ∧ ∀ x ∈ r.2.1, x.length ≤ 12) := by
  unfold spec_DrawBookEarliest.f
  refine Has.bind (draw_any hb 0 (by omega) (by omega)) fun r hr => ?_
  have lo := hr.lo
  have hi := hr.hi
  exact Has.bind (draw_six hb _ (by omega) (by omega)) fun t ⟨t1, t2⟩ => Has.bind (draw_slot hb t.2.2 r.1 r.2.1 (by omega) (by omega)) fun u ⟨u1, u2⟩ => Has.bind (draw_slot hb u.2.2 r.1 r.2.1 (by omega) (by omega)) fun _ _ => Has.now ⟨hr.cap, hr.len, hr.few⟩
 refine Has.bind dr fun x ⟨x1, x2, x3⟩ => ?_
 obtain ⟨c, s, u, ok, r1, r2, c1, s1, s2, r3⟩ := bookEarliest x.1 x.2.1 (by omega) (by omega) (fun y h => by have := x3 y h; omega) x.2.2.1 x.2.2.2.1 x.2.2.2.2
 refine Has.ev r2 (Has.ev r1 (Has.pos rfl (Has.pos rfl (Has.ev (rGates c s (by omega) (by omega) (fun y h => by have := s2 y h; omega)) (Has.pos rfl (Has.ev (a := 0) ?_ (bookLaw3 hb)))))))
 cases ok with
 | false => exact Ev.step (fun k => laws_FnBooking.scan.eq_2 ..) (Ev.neg (by simp) (Ev.now _))
 | true =>
  have E := r3 rfl
  obtain ⟨p, hp⟩ := Int.eq_ofNat_of_zero_le E.lo
  rw [hp]
  rcases Int.le_total u p with q | q
  ·exact bookScan _ _ _ _ E 0 p (.inr ⟨q, rfl⟩) (by omega)
  ·exact bookScan _ _ _ _ E (u - p).toNat p (.inl (by omega)) (by omega)
theorem bookLaw1 {b : List Int} (hb : Bytes b) : Has (fun k => laws_FnBooking.f1 k b) (fun r => r = true) := by
 unfold laws_FnBooking.f1
 have dr : Has (fun k => spec_DrawBookSlot.f k b) (fun r => r.1.length ≤ 10 ∧ r.2.1.length ≤ 10 ∧ ∀ x ∈ r.2.1, x.length ≤ 12) := by
  unfold spec_DrawBookSlot.f
  refine Has.bind (draw_any hb 0 (by omega) (by omega)) fun r hr => ?_
  have lo := hr.lo
  have hi := hr.hi
  exact Has.bind (draw_six hb _ (by omega) (by omega)) fun t ⟨t1, t2⟩ => Has.bind (draw_slot hb t.2.2 r.1 r.2.1 (by omega) (by omega)) fun _ _ => Has.now ⟨hr.cap, hr.len, hr.few⟩
 refine Has.bind dr fun x ⟨x1, x2, x3⟩ => ?_
 obtain ⟨c, s, ok, r1, r2, c1, s1, s2, r3⟩ := bookSlot x.1 x.2.1 (by omega) (by omega) (fun y h => by have := x3 y h; omega) x.2.2.1 x.2.2.2
 refine Has.ev r2 (Has.ev r1 (Has.pos rfl (Has.ev (rGates c s (by omega) (by omega) (fun y h => by have := s2 y h; omega)) (Has.pos rfl (Has.ev (a := 0) ?_ (bookLaw2 hb))))))
 cases ok with
 | false => exact Ev.neg (by simp) (Ev.now _)
 | true =>
  have B := r3 rfl
  have V := B.valid2
  obtain ⟨rfl, l1, l2, l3, l4, l5, T, C, M, f, o, F1, F2, f0, f1⟩ := bookedBack _ _ _ _ _ _ B
  have w : f - 1 = wrap64 (f - 1) := (w64 (by omega) (by omega)).symm
  have R1 := rGates x.1 x.2.1 (by omega) (by omega) (fun y h => by have := l4 y h; omega)
  have R2 := rGates x.1 s (by omega) (by omega) (fun y h => by have := l5 y h; omega)
  refine Ev.pos rfl ?_
  unfold laws_FnBooking.ck
  exact Ev.bind T (Ev.bind C (Ev.bind M (Ev.bind F1 (Ev.bind F2 (Ev.pos rfl (Ev.pos rfl (Ev.pos rfl (Ev.pos rfl (Ev.pos rfl (Ev.pos rfl (Ev.bind R1 (Ev.pos rfl (Ev.bind R2 (Ev.pos rfl (Ev.pos w (Ev.bind V (Ev.pos rfl (Ev.now _))))))))))))))))))
theorem FnBooking : ∀ (l0 : (List Int)), (l0.length ≤ 9223372036854775807 ∧ ∀ x ∈ l0, (Lit.int .u8 x).wf = true) → ∃ k, laws_FnBooking.f k l0 = some true := by
 intro l0 ⟨_, hw⟩
 suffices h : Has (fun k => laws_FnBooking.f k l0) (fun r => r = true) by
  obtain ⟨r, hr, rfl⟩ := h
  exact Ev.rounds hr
 unfold laws_FnBooking.f laws_rBig.f
 exact Has.val (Has.ite (fun _ => Has.now rfl) (fun _ => bookLaw1 (bytes_wf hw)))
end Go.Proofs.Ytglfjaaaegfdnaa.Pure
