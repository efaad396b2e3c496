/- The drawn trains: containers loaded in order are a valid loading with not more than the greatest number, and free lengths are never negative. No condition. -/
import Derived.Test.YthbibjfnmljpkaaInvFnTrainLoading
import Derived.Test.YthbibjfnmljpkaaWHelp
import Derived.Lib.Zigzag
namespace Go.Proofs.Ythbibjfnmljpkaa.Pure
open Go.RowKit Go.Proofs.YthbibjfnmljpkaaW.PrintWords Go.Proofs.YthbibjfnmljpkaaW.PrintLast Go.Proofs.YthbibjfnmljpkaaW.PrintMore Go.Proofs.YthbibjfnmljpkaaW.Help Go.Proofs.Ythbibjfnmljpkaa.PFnTrainLoading
set_option linter.unusedVariables false
def Has {α : Type} (g : Nat → Option α) (Q : α → Prop) : Prop := ∃ r, Ev g r ∧ Q r
theorem Has.bind {α β : Type} {g : Nat → Option α} {f : Nat → α → Option β} {P : α → Prop} {Q : β → Prop} (h : Has g P) (k : ∀ a, P a → Has (fun n => f n a) Q) : Has (fun n => (g n).bind (f n)) Q := by
 obtain ⟨a, h1, h2⟩ := h
 obtain ⟨r, r1, r2⟩ := k a h2
 exact ⟨r, Ev.bind h1 r1, r2⟩
theorem Has.pos {α : Type} {c : Prop} [Decidable c] {A B : Nat → Option α} {Q : α → Prop} (h : c) (k : Has A Q) : Has (fun n => if c then A n else B n) Q := by
 obtain ⟨r, r1, r2⟩ := k
 exact ⟨r, Ev.pos h r1, r2⟩
theorem Has.neg {α : Type} {c : Prop} [Decidable c] {A B : Nat → Option α} {Q : α → Prop} (h : ¬ c) (k : Has B Q) : Has (fun n => if c then A n else B n) Q := by
 obtain ⟨r, r1, r2⟩ := k
 exact ⟨r, Ev.neg h r1, r2⟩
theorem Has.ite {α : Type} {c : Prop} [Decidable c] {A B : Nat → Option α} {Q : α → Prop} (h1 : c → Has A Q) (h2 : ¬ c → Has B Q) : Has (fun n => if c then A n else B n) Q := by
 by_cases h : c
 ·exact Has.pos h (h1 h)
 ·exact Has.neg h (h2 h)
theorem Has.now {α : Type} {a : α} {Q : α → Prop} (h : Q a) : Has (fun _ => some a) Q := ⟨a, Ev.now _, h⟩
theorem Has.step {α : Type} {g s : Nat → Option α} {Q : α → Prop} (e : ∀ k, g (k + 1) = s k) (h : Has s Q) : Has g Q := by
 obtain ⟨r, r1, r2⟩ := h
 exact ⟨r, Ev.step e r1, r2⟩
theorem Has.mono {α : Type} {g : Nat → Option α} {P Q : α → Prop} (h : Has g P) (k : ∀ a, P a → Q a) : Has g Q := by
 obtain ⟨r, r1, r2⟩ := h
 exact ⟨r, r1, k r r2⟩
theorem Has.val {α β : Type} {a : α} {f : Nat → α → Option β} {Q : β → Prop} (k : Has (fun n => f n a) Q) : Has (fun n => (some a).bind (f n)) Q := k
theorem Has.const {α β : Type} {o : Option α} {f : Nat → α → Option β} {a : α} {Q : β → Prop} (h : o = some a) (k : Has (fun n => f n a) Q) : Has (fun n => o.bind (f n)) Q := by
 obtain ⟨r, r1, r2⟩ := k
 exact ⟨r, Ev.const h r1, r2⟩
theorem Has.of {α : Type} {g : Nat → Option α} {r : α} {Q : α → Prop} (h : Ev g r) (k : Q r) : Has g Q := ⟨r, h, k⟩
theorem Has.ev {α β : Type} {g : Nat → Option α} {f : Nat → α → Option β} {a : α} {Q : β → Prop} (h : Ev g a) (k : Has (fun n => f n a) Q) : Has (fun n => (g n).bind (f n)) Q := by
 obtain ⟨r, r1, r2⟩ := k
 exact ⟨r, Ev.bind h r1, r2⟩
def Bytes (c : List Int) : Prop := ∀ x ∈ c, 0 ≤ x ∧ x ≤ 255
theorem bytes_wf {c : List Int} (h : ∀ x ∈ c, (Lit.int .u8 x).wf = true) : Bytes c := fun x hx => by
 have := h x hx
 simp [Lit.wf, IntKind.min, IntKind.max, IntKind.signed, IntKind.bits] at this
 omega
theorem byte_of (y : Int) : 0 ≤ y % 2 ^ 8 ∧ y % 2 ^ 8 ≤ 255 := by omega
theorem byte_w (z : Int) (h : 0 ≤ z ∧ z ≤ 255) : 0 ≤ wrap64 z ∧ wrap64 z ≤ 255 := by
 rw [w64 (by omega) (by omega)]
 exact h
theorem high_of (s : Int) : 0 ≤ IntKind.u64.wrap s / 1099511627776 ∧ IntKind.u64.wrap s / 1099511627776 < 2 ^ 64 := by
 rw [IntKind.wrap_u64]
 omega
theorem low_byte (s : Int) : 0 ≤ wrap64 (Go.bits .and .u64 (IntKind.u64.wrap s / 1099511627776) 255) ∧ wrap64 (Go.bits .and .u64 (IntKind.u64.wrap s / 1099511627776) 255) ≤ 255 := by
 have h0 := high_of s
 generalize IntKind.u64.wrap s / 1099511627776 = y at h0 ⊢
 have e : Go.bits .and .u64 y 255 = y % 2 ^ 8 := bits_mask .u64 64 (by decide) Go.wraps_u64 8 (by decide) y h0.1 h0.2
 rw [e]
 exact byte_w _ (byte_of _)
theorem next_some (c : List Int) (hc : Bytes c) (a s : Int) (h0 : 0 ≤ a) (h1 : a ≤ 4611686018427387904) : ∃ x t, spec_l1Cur_next.f c a s = some (x, a + 1, t) ∧ 0 ≤ x ∧ x ≤ 255 := by
 unfold spec_l1Cur_next.f
 rw [show wrap64 (a + 1) = a + 1 from w64 (by omega) (by omega)]
 by_cases q : a < (c.length : Int)
 ·have e : 0 ≤ rd c a ∧ rd c a ≤ 255 := by
   unfold rd
   rw [getD_of (List.getElem?_eq_getElem (by omega))]
   exact hc _ (List.getElem_mem _)
  rw [if_pos q, if_pos h0, if_pos (by omega), w64 (by omega) (by omega)]
  exact ⟨_, _, rfl, e⟩
 ·rw [if_neg q, if_neg (by omega)]
  exact ⟨_, _, rfl, low_byte _⟩
def Dr (n a : Int) (r : Int × Int × Int) : Prop := 0 ≤ r.1 ∧ (1 < n → r.1 < n) ∧ (n ≤ 1 → r.1 = 0) ∧ a ≤ r.2.1 ∧ r.2.1 ≤ a + 2
theorem pick_some (c : List Int) (hc : Bytes c) (a s n : Int) (h0 : 0 ≤ a) (h1 : a ≤ 2305843009213693952) : ∃ r, spec_l1Cur_pick.f c a s n = some r ∧ Dr n a r := by
 unfold spec_l1Cur_pick.f
 by_cases q : n ≤ 1
 ·rw [if_pos q]
  exact ⟨_, rfl, by simp [Dr]; omega⟩
 ·rw [if_neg q]
  obtain ⟨x, t, e, x0, x1⟩ := next_some c hc a s h0 (by omega)
  rw [e]
  simp only [Option.bind_some]
  by_cases q2 : n > 200
  ·rw [if_pos q2]
   obtain ⟨y, u, e2, y0, y1⟩ := next_some c hc (a + 1) t (by omega) (by omega)
   rw [e2]
   simp only [Option.bind_some]
   rw [if_neg (by omega), show wrap64 (x * 256) = x * 256 from w64 (by omega) (by omega), show wrap64 (x * 256 + y) = x * 256 + y from w64 (by omega) (by omega), Int.tmod_eq_emod_of_nonneg (by omega)]
   have m0 := Int.emod_nonneg (x * 256 + y) (show n ≠ 0 by omega)
   have m1 := Int.emod_lt_of_pos (x * 256 + y) (show 0 < n by omega)
   exact ⟨_, rfl, by simp only [Dr]; omega⟩
  ·rw [if_neg q2, if_neg (by omega), Int.tmod_eq_emod_of_nonneg (by omega)]
   have m0 := Int.emod_nonneg x (show n ≠ 0 by omega)
   have m1 := Int.emod_lt_of_pos x (show 0 < n by omega)
   exact ⟨_, rfl, by simp only [Dr]; omega⟩
theorem pick {c : List Int} (hc : Bytes c) {a : Int} (s n : Int) (h0 : 0 ≤ a) (h1 : a ≤ 2305843009213693952) : Has (fun _ => spec_l1Cur_pick.f c a s n) (Dr n a) := by
 obtain ⟨r, e, d⟩ := pick_some c hc a s n h0 h1
 exact ⟨r, Ev.nor e, d⟩
def Far {α : Type} (m a : Int) (r : α × Int × Int) : Prop := a ≤ r.2.1 ∧ r.2.1 ≤ a + m
theorem among {c : List Int} (hc : Bytes c) {a : Int} (s : Int) (l : List Int) (hl : l ≠ []) (h0 : 0 ≤ a) (h1 : a ≤ 2305843009213693952) : Has (fun _ => spec_l1Cur_among.f c a s l) (fun r => r.1 ∈ l ∧ a ≤ r.2.1 ∧ r.2.1 ≤ a + 2) := by
 have hn : 0 < l.length := List.length_pos_iff.2 hl
 unfold spec_l1Cur_among.f
 refine Has.bind (pick hc s _ h0 h1) fun r ⟨r0, r1, r2, r3, r4⟩ => ?_
 have r5 : r.1 < (l.length : Int) := by
  rcases Int.lt_or_le 1 (l.length : Int) with h | h
  ·exact r1 h
  ·have := r2 h
   omega
 refine Has.pos r0 (Has.pos r5 (Has.now ⟨?_, r3, r4⟩))
 unfold rd
 rw [getD_of (List.getElem?_eq_getElem (by omega))]
 exact List.getElem_mem _
theorem amongCut {β : Type} {c : List Int} (hc : Bytes c) {a : Int} (s : Int) (l : List Int) (b : Int) (hb : 1 ≤ b) (hl : b + 2 ≤ (l.length : Int)) (hm : (l.length : Int) ≤ 1000) (h0 : 0 ≤ a) (h1 : a ≤ 1152921504606846976) {K : Nat → Int × Int × Int → Option β} {Q : β → Prop}
  (k : ∀ r : Int × Int × Int, r.1 ∈ l → a ≤ r.2.1 → r.2.1 ≤ a + 4 → Has (fun n => K n r) Q) :
  Has (fun n => (spec_l1Cur_pick.f c a s 24).bind fun bt => (if 0 ≤ (wrap64 (b + (wrap64 (Int.tdiv bt.1 11)))) then (if (wrap64 (b + (wrap64 (Int.tdiv bt.1 11)))) ≤ (l.length : Int) then ((spec_l1Cur_among.f c bt.2.1 bt.2.2 (l.take ((wrap64 (b + (wrap64 (Int.tdiv bt.1 11)))) : Int).toNat)).bind (K n)) else (none)) else (none))) Q := by
 refine Has.bind (pick hc s 24 h0 (by omega)) fun r ⟨r0, r1, _, r3, r4⟩ => ?_
 have r5 := r1 (by omega)
 have e : wrap64 (b + wrap64 (Int.tdiv r.1 11)) = b + r.1 / 11 := by
  rw [Int.tdiv_eq_ediv_of_nonneg r0, w64 (x := r.1 / 11) (by omega) (by omega), w64 (by omega) (by omega)]
 rw [e]
 refine Has.pos (by omega) (Has.pos (by omega) ?_)
 refine Has.bind (among hc (a := r.2.1) r.2.2 _ ?_ (by omega) (by omega)) fun q ⟨q0, q1, q2⟩ => k q (List.mem_of_mem_take q0) (by omega) (by omega)
 intro h
 have h2 := congrArg List.length h
 rw [List.length_take, List.length_nil] at h2
 omega
theorem one {c : List Int} (hc : Bytes c) {a : Int} (s n : Int) (h0 : 0 ≤ a) (h1 : a ≤ 2305843009213693952) : Has (fun _ => spec_l1Cur_one.f c a s n) (fun r => a ≤ r.2.1 ∧ r.2.1 ≤ a + 2) := by
 unfold spec_l1Cur_one.f
 exact Has.bind (pick hc s n h0 h1) fun r ⟨_, _, _, r3, r4⟩ => Has.now ⟨r3, r4⟩
theorem drawOf {c : List Int} (hc : Bytes c) {a : Int} (s : Int) (l : List ByteArray) (hl : l ≠ []) (h0 : 0 ≤ a) (h1 : a ≤ 2305843009213693952) : Has (fun _ => spec_l1Cur_of.f c a s l) (fun r => r.1 ∈ l ∧ a ≤ r.2.1 ∧ r.2.1 ≤ a + 2) := by
 have hn : 0 < l.length := List.length_pos_iff.2 hl
 unfold spec_l1Cur_of.f
 refine Has.bind (pick hc s _ h0 h1) fun r ⟨r0, r1, r2, r3, r4⟩ => ?_
 have r5 : r.1 < (l.length : Int) := by
  rcases Int.lt_or_le 1 (l.length : Int) with h | h
  ·exact r1 h
  ·have := r2 h
   omega
 refine Has.pos r0 (Has.pos r5 (Has.now ⟨?_, r3, r4⟩))
 unfold rdOf
 rw [List.getD_eq_getElem?_getD, List.getElem?_eq_getElem (by omega)]
 exact List.getElem_mem _
theorem check7 (s : ByteArray) (hs : 7 ≤ s.size) : Has (fun k => spec_l2Check.f k s) (fun _ => True) := by
 unfold spec_l2Check.f
 have main : ∀ d i : Nat, i + d = 7 → ∀ a : Int, Has (fun k => spec_l2Check.l0 k s a i) (fun _ => True) := by
  intro d
  induction d with
  | zero =>
   intro i hi a
   exact Has.step (fun k => spec_l2Check.l0.eq_2 ..) (Has.neg (by omega) (Has.now trivial))
  | succ d ih =>
   intro i hi a
   refine Has.step (fun k => spec_l2Check.l0.eq_2 ..) (Has.pos (by omega) (Has.pos (by omega) (Has.pos (by omega) ?_)))
   rw [show wrap64 ((i : Int) + 1) = ((i + 1 : Nat) : Int) from by rw [w64 (by omega) (by omega)]; rfl]
   exact Has.ite (fun _ => ih (i + 1) (by omega) _) (fun _ => ih (i + 1) (by omega) _)
 exact main 7 0 (by omega) 0
theorem strOne (t : Int) : (strOfNums [t]).size = 1 := rfl
theorem l1In_eq (a b c : Int) : spec_l1In.f a b c = some (decide (b ≤ a ∧ a ≤ c)) := by
 unfold spec_l1In.f
 by_cases h : b ≤ a <;> simp [h]
theorem within_eq (a b c : Int) : impl_within.f a b c = some (decide (b ≤ a ∧ a ≤ c)) := by
 unfold impl_within.f
 by_cases h : b ≤ a <;> simp [h]
def wagonOk (x : S54) : Prop := (1 ≤ x.f0 ∧ x.f0 ≤ 3) ∧ (1 ≤ x.f1 ∧ x.f1 ≤ 100000)
instance (x : S54) : Decidable (wagonOk x) := by unfold wagonOk; infer_instance
def Train (ts : List S54) : Prop := (1 ≤ (ts.length : Int) ∧ (ts.length : Int) ≤ 8) ∧ ∀ j : Nat, j < ts.length → wagonOk (rd_T54 ts j)
theorem notWagon (x : S54) : impl_IsValidTrain_1.f x.f0 x.f1 = some (!decide (wagonOk x)) := by
 unfold impl_IsValidTrain_1.f wagonOk
 rw [within_eq, within_eq]
 by_cases h : 1 ≤ x.f0 ∧ x.f0 ≤ 3
 ·simp only [h, Option.bind_some, true_and, and_self, decide_true, if_true]
 ·simp only [h, Option.bind_some, false_and, decide_false]
  rfl
theorem trainLoop (ts : List S54) (hl : ts.length ≤ 1048577) : ∀ d i : Nat, i + d = ts.length → ∃ (b : Bool) (q : Int), Ev (fun k => spec_l19Train.l0 k ts i) (b && decide (1 ≤ (ts.length : Int) ∧ (ts.length : Int) ≤ 8)) ∧
  Ev (fun k => slices_IndexFunc_impl_Wagon.l0 k ts ts.length i) q ∧ (!decide (q ≥ 0)) = b ∧ (b = true ↔ ∀ j : Nat, i ≤ j → j < ts.length → wagonOk (rd_T54 ts j)) := by
 intro d
 induction d with
 | zero =>
  intro i hi
  exact ⟨true, -1, Ev.step (fun k => spec_l19Train.l0.eq_2 ..) (Ev.neg (by omega) (Ev.const (l1In_eq _ _ _) (Ev.eq (Ev.now _) (Bool.true_and _).symm))), Ev.step (fun k => slices_IndexFunc_impl_Wagon.l0.eq_2 ..) (Ev.neg (by omega) (Ev.now _)), rfl, ⟨fun _ j h1 h2 => absurd h2 (by omega), fun _ => rfl⟩⟩
 | succ d ih =>
  intro i hi
  have li : (i : Int) < ts.length := by omega
  have l0 : (0 : Int) ≤ i := by omega
  have w1 : wrap64 ((i : Int) + 1) = ((i + 1 : Nat) : Int) := by rw [w64 (by omega) (by omega)]; rfl
  have no := notWagon (rd_T54 ts i)
  by_cases c : wagonOk (rd_T54 ts i)
  ·obtain ⟨b, q, h1, h2, h3, h4⟩ := ih (i + 1) (by omega)
   rw [← w1] at h1 h2
   refine ⟨b, q, ?_, ?_, h3, h4.trans ⟨fun h j j1 j2 => ?_, fun h j j1 j2 => h j (by omega) j2⟩⟩
   ·exact Ev.step (fun k => spec_l19Train.l0.eq_2 ..) (Ev.pos li (Ev.pos l0 (Ev.const (l1In_eq _ _ _) (Ev.pos (decide_eq_true c.1) (Ev.const (l1In_eq _ _ _) (Ev.pos (decide_eq_true c.2) h1))))))
   ·refine Ev.step (fun k => slices_IndexFunc_impl_Wagon.l0.eq_2 ..) (Ev.pos li (Ev.pos l0 (Ev.pos li (Ev.const no (Ev.neg ?_ h2)))))
    rw [decide_eq_true c]
    exact fun h => by cases h
   ·rcases Nat.lt_or_ge i j with q | q
    ·exact h j q j2
    ·obtain rfl : j = i := by omega
     exact c
  ·refine ⟨false, i, ?_, ?_, by simp, ⟨fun h => (by cases h), fun h => absurd (h i (Nat.le_refl _) (by omega)) c⟩⟩
   ·refine Ev.step (fun k => spec_l19Train.l0.eq_2 ..) (Ev.pos li (Ev.pos l0 (Ev.const (l1In_eq _ _ _) (Ev.ite (fun h1 => Ev.const (l1In_eq _ _ _) (Ev.neg (fun h2 => c ⟨of_decide_eq_true h1, of_decide_eq_true h2⟩) (Ev.now _))) (fun _ => Ev.now _)))))
   ·refine Ev.step (fun k => slices_IndexFunc_impl_Wagon.l0.eq_2 ..) (Ev.pos li (Ev.pos l0 (Ev.pos li (Ev.const no (Ev.pos ?_ (Ev.now _))))))
    rw [decide_eq_false c]
    rfl
theorem train (ts : List S54) (hl : ts.length ≤ 1048577) : ∃ b : Bool, Ev (fun k => spec_l19Train.f k ts) b ∧ Ev (fun k => impl_IsValidTrain.f k ts) b ∧ (b = true ↔ Train ts) := by
 obtain ⟨b, q, h1, h2, h3, h4⟩ := trainLoop ts hl ts.length 0 (by omega)
 unfold spec_l19Train.f impl_IsValidTrain.f slices_ContainsFunc_impl_Wagon.f slices_IndexFunc_impl_Wagon.f
 by_cases c : 1 ≤ (ts.length : Int) ∧ (ts.length : Int) ≤ 8
 ·rw [decide_eq_true c, Bool.and_true] at h1
  exact ⟨b, h1, Ev.const (within_eq _ _ _) (Ev.pos (decide_eq_true c) (Ev.bind (Ev.bind h2 (Ev.now _)) (Ev.eq (Ev.now _) h3))), h4.trans ⟨fun h => ⟨c, fun j hj => h j (by omega) hj⟩, fun h j _ hj => h.2 j hj⟩⟩
 ·rw [decide_eq_false c, Bool.and_false] at h1
  exact ⟨false, h1, Ev.const (within_eq _ _ _) (Ev.neg (fun h => c (of_decide_eq_true h)) (Ev.now _)), ⟨fun h => (by cases h), fun h => absurd h.1 c⟩⟩
theorem str_ext {s t : ByteArray} (h : s.data.toList = t.data.toList) : s = t := by
 obtain ⟨⟨a⟩⟩ := s
 obtain ⟨⟨b⟩⟩ := t
 have h' : a = b := h
 rw [h']
theorem str_eq {s t : ByteArray} : s.toList = t.toList ↔ s = t := by
 rw [ByteArray.toList_eq, ByteArray.toList_eq]
 exact ⟨str_ext, fun h => by rw [h]⟩
def okB (s : ByteArray) (i : Nat) : Prop := (i < 3 → 65 ≤ bt s i ∧ bt s i ≤ 90) ∧ (3 ≤ i → 48 ≤ bt s i ∧ bt s i ≤ 57)
theorem bt_bd (s : ByteArray) (i : Int) : 0 ≤ bt s i ∧ bt s i ≤ 255 := by
 unfold bt
 split
 ·rename_i h
  have := (s[i.toNat]'h).toNat_lt
  omega
 ·omega
theorem letters (s : ByteArray) (hs : s.size = 7) : ∀ d i : Nat, i + d = 7 → ∀ a : Int, 0 ≤ a → a ≤ 1000 * i → ∃ (b : Bool) (c : Int), Ev (fun k => spec_l2Seven.l0 k s i) b ∧ Ev (fun k => impl_checkLetter.l0 k s a 7 i) (if b = true then (c, true) else (0, false)) ∧ (b = true → Ev (fun k => spec_l2Check.l0 k s a i) c) := by
 intro d
 induction d with
 | zero =>
  intro i hi a h0 h1
  obtain rfl : i = 7 := by omega
  have e : Int.tmod a 23 = a % 23 := Int.tmod_eq_emod_of_nonneg h0
  have e1 : wrap64 (65 + a % 23) = 65 + a % 23 := w64 (by omega) (by omega)
  refine ⟨true, (65 + (a % 23) % 256) % 256, Ev.step (fun k => spec_l2Seven.l0.eq_2 ..) (Ev.neg (by omega) (Ev.now _)), Ev.step (fun k => impl_checkLetter.l0.eq_2 ..) (Ev.neg (by omega) (Ev.eq (Ev.now _) ?_)), fun _ => Ev.step (fun k => spec_l2Check.l0.eq_2 ..) (Ev.neg (by omega) (Ev.eq (Ev.now _) ?_))⟩
  ·rw [e, e1, if_pos rfl]
   congr 1
   omega
  ·rw [e]
 | succ d ih =>
  intro i hi a h0 h1
  have w1 : wrap64 ((i : Int) + 1) = ((i + 1 : Nat) : Int) := by rw [w64 (by omega) (by omega)]; rfl
  have w2 : wrap64 ((i : Int) + 2) = (i : Int) + 2 := w64 (by omega) (by omega)
  have hb := bt_bd s i
  have hsz : (s.size : Int) = 7 := by omega
  generalize hv : bt s i = v at hb
  have w3 : wrap64 v = v := w64 (by omega) (by omega)
  have w4 : wrap64 (v - 65) = v - 65 := w64 (by omega) (by omega)
  have w5 : wrap64 (v - 65 + 1) = v - 65 + 1 := w64 (by omega) (by omega)
  have w6 : wrap64 (v - 48) = v - 48 := w64 (by omega) (by omega)
  by_cases c3 : i < 3
  ·by_cases c : 65 ≤ v ∧ v ≤ 90
   ·have m1 : (v - 65) % 256 = v - 65 := by omega
    have p1 : 0 ≤ ((i : Int) + 2) * (v - 65 + 1) ∧ ((i : Int) + 2) * (v - 65 + 1) ≤ 26 * ((i : Int) + 2) := by
     have h3 : ((i : Int) + 2) * (v - 65 + 1) ≤ ((i : Int) + 2) * 26 := Int.mul_le_mul_of_nonneg_left (by omega) (by omega)
     exact ⟨Int.mul_nonneg (by omega) (by omega), by omega⟩
    have w7 : wrap64 (((i : Int) + 2) * (v - 65 + 1)) = ((i : Int) + 2) * (v - 65 + 1) := w64 (by omega) (by omega)
    have w8 : wrap64 (a + ((i : Int) + 2) * (v - 65 + 1)) = a + ((i : Int) + 2) * (v - 65 + 1) := w64 (by omega) (by omega)
    obtain ⟨b, cc, s1, s2, s3⟩ := ih (i + 1) (by omega) (a + ((i : Int) + 2) * (v - 65 + 1)) (by omega) (by omega)
    refine ⟨b, cc, Ev.step (fun k => spec_l2Seven.l0.eq_2 ..) ?_, Ev.step (fun k => impl_checkLetter.l0.eq_2 ..) ?_, fun h => Ev.step (fun k => spec_l2Check.l0.eq_2 ..) ?_⟩
    ·rw [hv, w1, hsz]
     exact Ev.pos (by omega) (Ev.pos (by omega) (Ev.pos (by omega) (Ev.pos (by omega) (Ev.neg (by omega) (Ev.neg (by omega) (Ev.neg (by omega) s1))))))
    ·rw [hv, hsz]
     refine Ev.pos (by omega) (Ev.pos (by omega) (Ev.pos (by omega) (Ev.pos (by omega) (Ev.pos (by omega) ?_))))
     refine Ev.step (fun k => impl_checkLetter.j1.eq_2 ..) (Ev.pos (by simp; omega) ?_)
     rw [w1, w2, m1, w7, w8]
     exact s2
    ·rw [hv, hsz]
     refine Ev.pos (by omega) (Ev.pos (by omega) (Ev.pos (by omega) (Ev.pos (by omega) ?_)))
     rw [w1, w2, w3, w4, w5, Int.mul_comm (v - 65 + 1), w7, w8]
     exact s3 h
   ·refine ⟨false, 0, Ev.step (fun k => spec_l2Seven.l0.eq_2 ..) ?_, Ev.step (fun k => impl_checkLetter.l0.eq_2 ..) ?_, fun h => by cases h⟩
    ·rw [hv, hsz]
     refine Ev.pos (by omega) (Ev.pos (by omega) (Ev.pos (by omega) (Ev.pos (by omega) ?_)))
     exact Ev.ite (fun _ => Ev.now _) (fun q => Ev.pos (by omega) (Ev.now _))
    ·rw [hv, hsz]
     refine Ev.pos (by omega) (Ev.pos (by omega) (Ev.pos (by omega) (Ev.pos (by omega) ?_)))
     have jj : Ev (fun k => impl_checkLetter.j1 k s a i v 7 i false) (0, false) := Ev.step (fun k => impl_checkLetter.j1.eq_2 ..) (Ev.neg (by simp) (Ev.neg (by omega) (Ev.now _)))
     refine Ev.ite (fun q => ?_) (fun _ => jj)
     rw [show decide (v ≤ 90) = false from by simp; omega]
     exact jj
  ·by_cases c : 48 ≤ v ∧ v ≤ 57
   ·have m1 : (v - 48) % 256 = v - 48 := by omega
    have p1 : 0 ≤ ((i : Int) + 2) * (v - 48) ∧ ((i : Int) + 2) * (v - 48) ≤ 9 * ((i : Int) + 2) := by
     have h3 : ((i : Int) + 2) * (v - 48) ≤ ((i : Int) + 2) * 9 := Int.mul_le_mul_of_nonneg_left (by omega) (by omega)
     exact ⟨Int.mul_nonneg (by omega) (by omega), by omega⟩
    have w7 : wrap64 (((i : Int) + 2) * (v - 48)) = ((i : Int) + 2) * (v - 48) := w64 (by omega) (by omega)
    have w8 : wrap64 (a + ((i : Int) + 2) * (v - 48)) = a + ((i : Int) + 2) * (v - 48) := w64 (by omega) (by omega)
    obtain ⟨b, cc, s1, s2, s3⟩ := ih (i + 1) (by omega) (a + ((i : Int) + 2) * (v - 48)) (by omega) (by omega)
    refine ⟨b, cc, Ev.step (fun k => spec_l2Seven.l0.eq_2 ..) ?_, Ev.step (fun k => impl_checkLetter.l0.eq_2 ..) ?_, fun h => Ev.step (fun k => spec_l2Check.l0.eq_2 ..) ?_⟩
    ·rw [hv, w1, hsz]
     exact Ev.pos (by omega) (Ev.neg (by omega) (Ev.pos (by omega) (Ev.pos (by omega) (Ev.pos (by omega) (Ev.neg (by omega) (Ev.neg (by omega) s1))))))
    ·rw [hv, hsz]
     refine Ev.pos (by omega) (Ev.pos (by omega) (Ev.pos (by omega) (Ev.neg (by omega) ?_)))
     refine Ev.step (fun k => impl_checkLetter.j1.eq_2 ..) (Ev.neg (by simp) (Ev.pos (by omega) (Ev.pos (by omega) (Ev.pos (by omega) ?_))))
     rw [w1, w2, m1, w7, w8]
     exact s2
    ·rw [hv, hsz]
     refine Ev.pos (by omega) (Ev.pos (by omega) (Ev.pos (by omega) (Ev.neg (by omega) ?_)))
     rw [w1, w2, w3, w6, Int.mul_comm (v - 48), w7, w8]
     exact s3 h
   ·refine ⟨false, 0, Ev.step (fun k => spec_l2Seven.l0.eq_2 ..) ?_, Ev.step (fun k => impl_checkLetter.l0.eq_2 ..) ?_, fun h => by cases h⟩
    ·rw [hv, hsz]
     refine Ev.pos (by omega) (Ev.neg (by omega) (Ev.pos (by omega) (Ev.pos (by omega) (Ev.pos (by omega) ?_))))
     exact Ev.ite (fun _ => Ev.now _) (fun q => Ev.pos (by omega) (Ev.now _))
    ·rw [hv, hsz]
     refine Ev.pos (by omega) (Ev.pos (by omega) (Ev.pos (by omega) (Ev.neg (by omega) ?_)))
     refine Ev.step (fun k => impl_checkLetter.j1.eq_2 ..) (Ev.neg (by simp) (Ev.pos (by omega) (Ev.ite (fun q => Ev.neg (by omega) (Ev.now _)) (fun _ => Ev.now _))))
theorem ids (s : ByteArray) : ∃ b : Bool, Ev (fun k => spec_l2Id.f k s) b ∧ Ev (fun k => impl_IsValidId.f k s) b ∧ (b = true → s.size = 8) := by
 unfold spec_l2Id.f impl_IsValidId.f
 by_cases c : (s.size : Int) = 8
 ·have hx : (s.extract 0 7).size = 7 := by
   rw [ByteArray.size_extract]
   omega
  obtain ⟨b, l, h1, h2, h3⟩ := letters (s.extract 0 7) hx 7 0 (by omega) 0 (by omega) (by omega)
  have g1 : Ev (fun k => spec_l2Seven.f k (s.extract 0 7)) b := by
   unfold spec_l2Seven.f
   exact Ev.pos (by omega) h1
  have g2 : Ev (fun k => impl_checkLetter.f k (s.extract 0 7)) (if b = true then (l, true) else (0, false)) := by
   unfold impl_checkLetter.f
   rw [show ((s.extract 0 7).size : Int) = 7 by omega]
   exact Ev.pos rfl h2
  cases b with
  | false => exact ⟨false, Ev.pos c (Ev.pos (by omega) (Ev.pos (by omega) (Ev.bind g1 (Ev.neg (by simp) (Ev.now _))))), Ev.pos c (Ev.pos (by omega) (Ev.pos (by omega) (Ev.bind g2 (Ev.neg (by simp) (Ev.now _))))), fun h => by cases h⟩
  | true =>
   refine ⟨bt s 7 == l, Ev.pos c (Ev.pos (by omega) (Ev.pos (by omega) (Ev.bind g1 (Ev.pos rfl (Ev.pos (by omega) (Ev.bind (a := l) ?_ (Ev.now _))))))), Ev.pos c (Ev.pos (by omega) (Ev.pos (by omega) (Ev.bind g2 (Ev.pos rfl (Ev.pos (by omega) (Ev.now _)))))), fun _ => by omega⟩
   unfold spec_l2Check.f
   exact h3 rfl
 ·exact ⟨false, Ev.neg c (Ev.now _), Ev.neg c (Ev.now _), fun h => by cases h⟩
noncomputable def isId (s : ByteArray) : Bool := Classical.choose (ids s)
theorem isId_spec (s : ByteArray) : Ev (fun k => spec_l2Id.f k s) (isId s) := (Classical.choose_spec (ids s)).1
theorem isId_impl (s : ByteArray) : Ev (fun k => impl_IsValidId.f k s) (isId s) := (Classical.choose_spec (ids s)).2.1
theorem isId_size (s : ByteArray) (h : isId s = true) : s.size = 8 := (Classical.choose_spec (ids s)).2.2 h
def contOk (x : S64) : Prop := isId x.f0 = true ∧ (1 ≤ x.f1 ∧ x.f1 ≤ 2) ∧ (1 ≤ x.f2 ∧ x.f2 ≤ 32000) ∧ (1 ≤ x.f3 ∧ x.f3 ≤ 3) ∧ (1 ≤ x.f4 ∧ x.f4 ≤ 9)
theorem container (x : S64) : ∃ b : Bool, Ev (fun k => spec_l2Good.f k x.f0 x.f1 x.f2 x.f3 x.f4) b ∧ Ev (fun k => impl_IsValidContainer.f k x.f0 x.f1 x.f2 x.f3 x.f4) b ∧ (b = true ↔ contOk x) := by
 unfold spec_l2Good.f impl_IsValidContainer.f contOk
 have hs := isId_spec x.f0
 have hi := isId_impl x.f0
 by_cases c0 : isId x.f0 = true
 ·by_cases c1 : 1 ≤ x.f1 ∧ x.f1 ≤ 2
  ·by_cases c2 : 1 ≤ x.f2 ∧ x.f2 ≤ 32000
   ·by_cases c3 : 1 ≤ x.f3 ∧ x.f3 ≤ 3
    ·exact ⟨decide (1 ≤ x.f4 ∧ x.f4 ≤ 9), Ev.bind hs (Ev.pos c0 (Ev.const (l1In_eq _ _ _) (Ev.pos (decide_eq_true c1) (Ev.const (l1In_eq _ _ _) (Ev.pos (decide_eq_true c2) (Ev.const (l1In_eq _ _ _) (Ev.pos (decide_eq_true c3) (Ev.const (l1In_eq _ _ _) (Ev.now _))))))))),
      Ev.bind hi (Ev.pos c0 (Ev.const (within_eq _ _ _) (Ev.pos (decide_eq_true c1) (Ev.const (within_eq _ _ _) (Ev.pos (decide_eq_true c3) (Ev.const (within_eq _ _ _) (Ev.pos (decide_eq_true c2) (Ev.const (within_eq _ _ _) (Ev.now _))))))))), ⟨fun h => ⟨c0, c1, c2, c3, of_decide_eq_true h⟩, fun h => decide_eq_true h.2.2.2.2⟩⟩
    ·exact ⟨false, Ev.bind hs (Ev.pos c0 (Ev.const (l1In_eq _ _ _) (Ev.pos (decide_eq_true c1) (Ev.const (l1In_eq _ _ _) (Ev.pos (decide_eq_true c2) (Ev.const (l1In_eq _ _ _) (Ev.neg (fun h => c3 (of_decide_eq_true h)) (Ev.now _)))))))),
      Ev.bind hi (Ev.pos c0 (Ev.const (within_eq _ _ _) (Ev.pos (decide_eq_true c1) (Ev.const (within_eq _ _ _) (Ev.neg (fun h => c3 (of_decide_eq_true h)) (Ev.now _)))))), ⟨fun h => (by cases h), fun h => absurd h.2.2.2.1 c3⟩⟩
   ·exact ⟨false, Ev.bind hs (Ev.pos c0 (Ev.const (l1In_eq _ _ _) (Ev.pos (decide_eq_true c1) (Ev.const (l1In_eq _ _ _) (Ev.neg (fun h => c2 (of_decide_eq_true h)) (Ev.now _)))))),
     Ev.bind hi (Ev.pos c0 (Ev.const (within_eq _ _ _) (Ev.pos (decide_eq_true c1) (Ev.const (within_eq _ _ _) (Ev.ite (fun _ => Ev.const (within_eq _ _ _) (Ev.neg (fun h => c2 (of_decide_eq_true h)) (Ev.now _))) (fun _ => Ev.now _)))))), ⟨fun h => (by cases h), fun h => absurd h.2.2.1 c2⟩⟩
  ·exact ⟨false, Ev.bind hs (Ev.pos c0 (Ev.const (l1In_eq _ _ _) (Ev.neg (fun h => c1 (of_decide_eq_true h)) (Ev.now _)))), Ev.bind hi (Ev.pos c0 (Ev.const (within_eq _ _ _) (Ev.neg (fun h => c1 (of_decide_eq_true h)) (Ev.now _)))), ⟨fun h => (by cases h), fun h => absurd h.2.1 c1⟩⟩
 ·exact ⟨false, Ev.bind hs (Ev.neg c0 (Ev.now _)), Ev.bind hi (Ev.neg c0 (Ev.now _)), ⟨fun h => (by cases h), fun h => absurd h.1 c0⟩⟩
theorem find_spec (xs : List S64) (hl : xs.length ≤ 1048577) (s : ByteArray) : ∀ d i : Nat, i + d = xs.length → ∃ t : Int, Ev (fun k => spec_l2Find.l0 k xs s i) t ∧
  ((t = -1 ∧ ∀ j : Nat, i ≤ j → j < xs.length → (rd_T64 xs j).f0 ≠ s) ∨ ∃ m : Nat, t = m ∧ i ≤ m ∧ m < xs.length ∧ (rd_T64 xs m).f0 = s ∧ ∀ j : Nat, i ≤ j → j < m → (rd_T64 xs j).f0 ≠ s) := by
 intro d
 induction d with
 | zero =>
  intro i hi
  exact ⟨-1, Ev.step (fun k => spec_l2Find.l0.eq_2 ..) (Ev.neg (by omega) (Ev.now _)), .inl ⟨rfl, fun j h1 h2 => absurd h2 (by omega)⟩⟩
 | succ d ih =>
  intro i hi
  have li : (i : Int) < xs.length := by omega
  have i0 : (0 : Int) ≤ i := by omega
  by_cases c : (rd_T64 xs i).f0 = s
  ·exact ⟨i, Ev.step (fun k => spec_l2Find.l0.eq_2 ..) (Ev.pos li (Ev.pos i0 (Ev.pos (str_eq.2 c) (Ev.now _)))), .inr ⟨i, rfl, Nat.le_refl _, by omega, c, fun j h1 h2 => absurd h2 (by omega)⟩⟩
  ·obtain ⟨t, h1, h2⟩ := ih (i + 1) (by omega)
   have ex : ∀ j : Nat, i ≤ j → (i + 1 ≤ j → (rd_T64 xs j).f0 ≠ s) → (rd_T64 xs j).f0 ≠ s := by
    intro j j1 h
    rcases Nat.lt_or_ge i j with q | q
    ·exact h q
    ·obtain rfl : j = i := by omega
     exact c
   have w1 : wrap64 ((i : Int) + 1) = ((i + 1 : Nat) : Int) := by rw [w64 (by omega) (by omega)]; rfl
   rw [← w1] at h1
   refine ⟨t, Ev.step (fun k => spec_l2Find.l0.eq_2 ..) (Ev.pos li (Ev.pos i0 (Ev.neg (fun h => c (str_eq.1 h)) h1))), ?_⟩
   rcases h2 with ⟨rfl, h2⟩ | ⟨m, rfl, m1, m2, m3, m4⟩
   ·exact .inl ⟨rfl, fun j j1 j2 => ex j j1 (fun q => h2 j q j2)⟩
   ·exact .inr ⟨m, rfl, by omega, m2, m3, fun j j1 j2 => ex j j1 (fun q => m4 j q j2)⟩
theorem find_impl (xs : List S64) (hl : xs.length ≤ 1048577) (s : ByteArray) : ∀ d i : Nat, i + d = xs.length → ∃ t : Int, Ev (fun k => slices_IndexFunc_impl_Container.l0 k xs xs.length i s) t ∧
  ((t = -1 ∧ ∀ j : Nat, i ≤ j → j < xs.length → (rd_T64 xs j).f0 ≠ s) ∨ ∃ m : Nat, t = m ∧ i ≤ m ∧ m < xs.length ∧ (rd_T64 xs m).f0 = s ∧ ∀ j : Nat, i ≤ j → j < m → (rd_T64 xs j).f0 ≠ s) := by
 intro d
 induction d with
 | zero =>
  intro i hi
  exact ⟨-1, Ev.step (fun k => slices_IndexFunc_impl_Container.l0.eq_2 ..) (Ev.neg (by omega) (Ev.now _)), .inl ⟨rfl, fun j h1 h2 => absurd h2 (by omega)⟩⟩
 | succ d ih =>
  intro i hi
  have li : (i : Int) < xs.length := by omega
  have i0 : (0 : Int) ≤ i := by omega
  by_cases c : (rd_T64 xs i).f0 = s
  ·refine ⟨i, Ev.step (fun k => slices_IndexFunc_impl_Container.l0.eq_2 ..) (Ev.pos li (Ev.pos i0 (Ev.pos li (Ev.const (a := true) ?_ (Ev.pos rfl (Ev.now _)))))), .inr ⟨i, rfl, Nat.le_refl _, by omega, c, fun j h1 h2 => absurd h2 (by omega)⟩⟩
   unfold impl_indexOf_1.f
   rw [c]
   simp
  ·obtain ⟨t, h1, h2⟩ := ih (i + 1) (by omega)
   have ex : ∀ j : Nat, i ≤ j → (i + 1 ≤ j → (rd_T64 xs j).f0 ≠ s) → (rd_T64 xs j).f0 ≠ s := by
    intro j j1 h
    rcases Nat.lt_or_ge i j with q | q
    ·exact h q
    ·obtain rfl : j = i := by omega
     exact c
   have w1 : wrap64 ((i : Int) + 1) = ((i + 1 : Nat) : Int) := by rw [w64 (by omega) (by omega)]; rfl
   rw [← w1] at h1
   refine ⟨t, Ev.step (fun k => slices_IndexFunc_impl_Container.l0.eq_2 ..) (Ev.pos li (Ev.pos i0 (Ev.pos li (Ev.const (a := false) ?_ (Ev.neg (fun h => by cases h) h1))))), ?_⟩
   ·unfold impl_indexOf_1.f
    exact congrArg some (beq_eq_false_iff_ne.2 (fun h => c (str_eq.1 h)))
   rcases h2 with ⟨rfl, h2⟩ | ⟨m, rfl, m1, m2, m3, m4⟩
   ·exact .inl ⟨rfl, fun j j1 j2 => ex j j1 (fun q => h2 j q j2)⟩
   ·exact .inr ⟨m, rfl, by omega, m2, m3, fun j j1 j2 => ex j j1 (fun q => m4 j q j2)⟩
def vC (xs : List S64) (i : Nat) : Prop := contOk (rd_T64 xs i) ∧ ∀ j : Nat, j < i → (rd_T64 xs j).f0 ≠ (rd_T64 xs i).f0
def Conts (xs : List S64) : Prop := (xs.length : Int) ≤ 12 ∧ ∀ i : Nat, i < xs.length → vC xs i
theorem rd_take (xs : List S64) (n j : Nat) (h : j < n) : rd_T64 (xs.take n) (j : Int) = rd_T64 xs j := by
 unfold rd_T64
 rw [Int.toNat_natCast, List.getD_eq_getElem?_getD, List.getD_eq_getElem?_getD, List.getElem?_take_of_lt h]
theorem contsSpec (xs : List S64) (hl : xs.length ≤ 1048577) : ∀ d i : Nat, i + d = xs.length → (∀ j : Nat, j < i → vC xs j) → ∃ b : Bool, Ev (fun k => spec_l2List.l0 k xs i) b ∧ (b = true ↔ Conts xs) := by
 intro d
 induction d with
 | zero =>
  intro i hi hv
  refine ⟨decide ((xs.length : Int) ≤ 12), Ev.step (fun k => spec_l2List.l0.eq_2 ..) (Ev.neg (by omega) (Ev.step (fun k => spec_l2List.j1.eq_2 ..) (Ev.neg (by simp) (Ev.now _)))), ?_⟩
  exact ⟨fun h => ⟨of_decide_eq_true h, fun j hj => hv j (by omega)⟩, fun h => decide_eq_true h.1⟩
 | succ d ih =>
  intro i hi hv
  have li : (i : Int) < xs.length := by omega
  have i0 : (0 : Int) ≤ i := by omega
  by_cases c12 : (i : Int) ≤ 12
  ·obtain ⟨b, g1, _, g3⟩ := container (rd_T64 xs i)
   obtain ⟨t, t1, t2⟩ := find_spec xs hl (rd_T64 xs i).f0 xs.length 0 (by omega)
   have pre : ∀ r, Ev _ r → Ev (fun k => spec_l2List.l0 k xs i) r := fun r hr => Ev.step (fun k => spec_l2List.l0.eq_2 ..) (Ev.pos li (Ev.step (fun k => spec_l2List.j1.eq_2 ..) (Ev.pos (decide_eq_true c12) (Ev.pos i0 (Ev.pos li (Ev.bind g1 hr))))))
   by_cases cb : b = true
   ·by_cases ct : t = i
    ·have vi : vC xs i := by
      refine ⟨g3.1 cb, fun j hj => ?_⟩
      rcases t2 with ⟨e, _⟩ | ⟨m, e, _, _, _, m4⟩
      ·omega
      ·exact m4 j (by omega) (by omega)
     obtain ⟨r, r1, r2⟩ := ih (i + 1) (by omega) (fun j hj => by
      rcases Nat.lt_or_ge j i with q | q
      ·exact hv j q
      ·obtain rfl : j = i := by omega
       exact vi)
     have w1 : wrap64 ((i : Int) + 1) = ((i + 1 : Nat) : Int) := by rw [w64 (by omega) (by omega)]; rfl
     rw [← w1] at r1
     exact ⟨r, pre r (Ev.pos cb (Ev.bind t1 (Ev.pos ct r1))), r2⟩
    ·refine ⟨false, pre _ (Ev.pos cb (Ev.bind t1 (Ev.neg ct (Ev.now _)))), ⟨fun h => (by cases h), fun h => ?_⟩⟩
     exfalso
     have vi := h.2 i (by omega)
     rcases t2 with ⟨_, m4⟩ | ⟨m, rfl, _, _, m3, m4⟩
     ·exact m4 i (by omega) (by omega) rfl
     ·rcases Nat.lt_or_ge m i with q | q
      ·exact vi.2 m q m3
      ·rcases Nat.lt_or_ge i m with q' | q'
       ·exact m4 i (by omega) q' rfl
       ·exact ct (by omega)
   ·exact ⟨false, pre _ (Ev.neg cb (Ev.now _)), ⟨fun h => (by cases h), fun h => absurd (g3.2 (h.2 i (by omega)).1) cb⟩⟩
  ·refine ⟨false, Ev.step (fun k => spec_l2List.l0.eq_2 ..) (Ev.pos li (Ev.step (fun k => spec_l2List.j1.eq_2 ..) (Ev.neg (fun h => c12 (of_decide_eq_true h)) (Ev.eq (Ev.now _) ?_)))), ⟨fun h => (by cases h), fun h => absurd h.1 (by omega)⟩⟩
   exact decide_eq_false (by omega)
theorem contsImpl (xs : List S64) (hl : xs.length ≤ 1048577) : ∀ d i : Nat, i + d = xs.length → (∀ j : Nat, j < i → vC xs j) → ∃ b : Bool, Ev (fun k => impl_IsValidContainers.l0 k xs xs xs.length i) b ∧ (b = true ↔ Conts xs) := by
 intro d
 induction d with
 | zero =>
  intro i hi hv
  refine ⟨decide ((xs.length : Int) ≤ 12), Ev.step (fun k => impl_IsValidContainers.l0.eq_2 ..) (Ev.neg (by omega) (Ev.now _)), ?_⟩
  exact ⟨fun h => ⟨of_decide_eq_true h, fun j hj => hv j (by omega)⟩, fun h => decide_eq_true h.1⟩
 | succ d ih =>
  intro i hi hv
  have li : (i : Int) < xs.length := by omega
  have i0 : (0 : Int) ≤ i := by omega
  obtain ⟨b, _, g1, g3⟩ := container (rd_T64 xs i)
  have ln : (xs.take i).length = i := by rw [List.length_take]; omega
  obtain ⟨t, t1, t2⟩ := find_impl (xs.take i) (by omega) (rd_T64 xs i).f0 i 0 (by omega)
  have F : Ev (fun k => impl_indexOf.f k (xs.take ((i : Int)).toNat) (rd_T64 xs i).f0) t := by
   unfold impl_indexOf.f slices_IndexFunc_impl_Container.f
   rw [Int.toNat_natCast]
   exact Ev.bind t1 (Ev.now _)
  have pre : ∀ r, Ev _ r → Ev (fun k => impl_IsValidContainers.l0 k xs xs xs.length i) r := fun r hr => Ev.step (fun k => impl_IsValidContainers.l0.eq_2 ..) (Ev.pos li (Ev.pos i0 (Ev.pos li (Ev.bind g1 hr))))
  by_cases cb : b = true
  ·by_cases ct : t ≥ 0
   ·refine ⟨false, pre _ (Ev.pos cb (Ev.pos (by omega) (Ev.bind F (Ev.pos ct (Ev.now _))))), ⟨fun h => (by cases h), fun h => ?_⟩⟩
    exfalso
    rcases t2 with ⟨e, _⟩ | ⟨m, _, _, m2, m3, _⟩
    ·omega
    ·rw [rd_take xs i m (by omega)] at m3
     exact (h.2 i (by omega)).2 m (by omega) m3
   ·have vi : vC xs i := by
     refine ⟨g3.1 cb, fun j hj => ?_⟩
     rcases t2 with ⟨_, m4⟩ | ⟨m, e, _⟩
     ·have := m4 j (by omega) (by omega)
      rwa [rd_take xs i j hj] at this
     ·omega
    obtain ⟨r, r1, r2⟩ := ih (i + 1) (by omega) (fun j hj => by
     rcases Nat.lt_or_ge j i with q | q
     ·exact hv j q
     ·obtain rfl : j = i := by omega
      exact vi)
    have w1 : wrap64 ((i : Int) + 1) = ((i + 1 : Nat) : Int) := by rw [w64 (by omega) (by omega)]; rfl
    rw [← w1] at r1
    exact ⟨r, pre r (Ev.pos cb (Ev.pos (by omega) (Ev.bind F (Ev.neg ct r1)))), r2⟩
  ·exact ⟨false, pre _ (Ev.neg cb (Ev.now _)), ⟨fun h => (by cases h), fun h => absurd (g3.2 (h.2 i (by omega)).1) cb⟩⟩
theorem conts (xs : List S64) (hl : xs.length ≤ 1048577) : ∃ b : Bool, Ev (fun k => spec_l2List.f k xs) b ∧ Ev (fun k => impl_IsValidContainers.f k xs) b ∧ (b = true ↔ Conts xs) := by
 obtain ⟨b, h1, h2⟩ := contsSpec xs hl xs.length 0 (by omega) (fun j hj => by omega)
 obtain ⟨b', h1', h2'⟩ := contsImpl xs hl xs.length 0 (by omega) (fun j hj => by omega)
 have e : b' = b := by
  cases b <;> cases b' <;> simp_all
 subst e
 exact ⟨_, h1, h1', h2⟩
def sL (xs : List S64) (lo : List Int) (w : Int) : Nat → Int
 | 0 => 0
 | n + 1 => if rd lo n = w then sL xs lo w n + (rd_T64 xs n).f1 else sL xs lo w n
def sW (xs : List S64) (lo : List Int) (w : Int) : Nat → Int
 | 0 => 0
 | n + 1 => if rd lo n = w then sW xs lo w n + (rd_T64 xs n).f2 else sW xs lo w n
def Small (xs : List S64) : Prop := xs.length ≤ 12 ∧ ∀ i : Nat, i < xs.length → (0 ≤ (rd_T64 xs i).f1 ∧ (rd_T64 xs i).f1 ≤ 2) ∧ (0 ≤ (rd_T64 xs i).f2 ∧ (rd_T64 xs i).f2 ≤ 32000)
theorem small (xs : List S64) (h : Conts xs) : Small xs := ⟨by have := h.1; omega, fun i hi => by
 have := (h.2 i hi).1
 exact ⟨⟨by have := this.2.1.1; omega, this.2.1.2⟩, by have := this.2.2.1.1; omega, this.2.2.1.2⟩⟩
theorem sL_bd (xs : List S64) (hs : Small xs) (lo : List Int) (w : Int) (n : Nat) (hn : n ≤ xs.length) : 0 ≤ sL xs lo w n ∧ sL xs lo w n ≤ 2 * n := by
 induction n with
 | zero => exact ⟨Int.le_refl _, Int.le_refl _⟩
 | succ n ih =>
  have h1 := ih (by omega)
  have h2 := (hs.2 n (by omega)).1
  unfold sL
  generalize sL xs lo w n = a at *
  generalize (rd_T64 xs n).f1 = b at *
  split <;> omega
theorem sW_bd (xs : List S64) (hs : Small xs) (lo : List Int) (w : Int) (n : Nat) (hn : n ≤ xs.length) : 0 ≤ sW xs lo w n ∧ sW xs lo w n ≤ 32000 * n := by
 induction n with
 | zero => exact ⟨Int.le_refl _, Int.le_refl _⟩
 | succ n ih =>
  have h1 := ih (by omega)
  have h2 := (hs.2 n (by omega)).2
  unfold sW
  generalize sW xs lo w n = a at *
  generalize (rd_T64 xs n).f2 = b at *
  split <;> omega
theorem sums (xs : List S64) (hs : Small xs) (lo : List Int) (h : lo.length ≤ xs.length) (w : Int) : Ev (fun k => spec_l19Sums.f k xs lo w) (sL xs lo w lo.length, sW xs lo w lo.length) := by
 unfold spec_l19Sums.f
 have main : ∀ d i : Nat, i + d = lo.length → Ev (fun k => spec_l19Sums.l0 k xs lo w (sL xs lo w i) (sW xs lo w i) i) (sL xs lo w lo.length, sW xs lo w lo.length) := by
  intro d
  induction d with
  | zero =>
   intro i hi
   obtain rfl : i = lo.length := by omega
   exact Ev.step (fun k => spec_l19Sums.l0.eq_2 ..) (Ev.neg (by omega) (Ev.now _))
  | succ d ih =>
   intro i hi
   have li : (i : Int) < lo.length := by omega
   have lx : (i : Int) < xs.length := by omega
   have l12 : xs.length ≤ 12 := hs.1
   have i0 : (0 : Int) ≤ i := by omega
   have w1 : wrap64 ((i : Int) + 1) = ((i + 1 : Nat) : Int) := by rw [w64 (by omega) (by omega)]; rfl
   have h1 := sL_bd xs hs lo w i (by omega)
   have h2 := sW_bd xs hs lo w i (by omega)
   have h3 := hs.2 i (by omega)
   have := ih (i + 1) (by omega)
   refine Ev.step (fun k => spec_l19Sums.l0.eq_2 ..) (Ev.pos li (Ev.pos i0 ?_))
   rw [w1]
   rw [show sL xs lo w (i + 1) = if rd lo i = w then sL xs lo w i + (rd_T64 xs i).f1 else sL xs lo w i from rfl, show sW xs lo w (i + 1) = if rd lo i = w then sW xs lo w i + (rd_T64 xs i).f2 else sW xs lo w i from rfl] at this
   clear w1
   by_cases c : rd lo i = w
   ·rw [if_pos c, if_pos c] at this
    refine Ev.pos c (Ev.pos lx ?_)
    generalize sL xs lo w i = a at *
    generalize sW xs lo w i = b at *
    generalize (rd_T64 xs i).f1 = p at *
    generalize (rd_T64 xs i).f2 = q at *
    have e1 : wrap64 (a + p) = a + p := w64 (by omega) (by omega)
    have e2 : wrap64 (b + q) = b + q := w64 (by omega) (by omega)
    rw [e1, e2]
    exact this
   ·rw [if_neg c, if_neg c] at this
    exact Ev.neg c this
 exact main lo.length 0 (by omega)
def Fit (ts : List S54) (xs : List S64) (lo : List Int) : Prop := ∀ j : Nat, j < ts.length → sL xs lo j lo.length ≤ (rd_T54 ts j).f0 ∧ sW xs lo j lo.length ≤ (rd_T54 ts j).f1
theorem fits (ts : List S54) (ht : ts.length ≤ 1048577) (xs : List S64) (hs : Small xs) (lo : List Int) (h : lo.length ≤ xs.length) : ∃ b : Bool, Ev (fun k => spec_l19Fits.f k ts xs lo) b ∧ (b = true ↔ Fit ts xs lo) := by
 unfold spec_l19Fits.f
 have main : ∀ d i : Nat, i + d = ts.length → ∃ b : Bool, Ev (fun k => spec_l19Fits.l0 k ts xs lo i) b ∧ (b = true ↔ ∀ j : Nat, i ≤ j → j < ts.length → sL xs lo j lo.length ≤ (rd_T54 ts j).f0 ∧ sW xs lo j lo.length ≤ (rd_T54 ts j).f1) := by
  intro d
  induction d with
  | zero =>
   intro i hi
   exact ⟨true, Ev.step (fun k => spec_l19Fits.l0.eq_2 ..) (Ev.neg (by omega) (Ev.now _)), ⟨fun _ j h1 h2 => absurd h2 (by omega), fun _ => rfl⟩⟩
  | succ d ih =>
   intro i hi
   have li : (i : Int) < ts.length := by omega
   have i0 : (0 : Int) ≤ i := by omega
   have w1 : wrap64 ((i : Int) + 1) = ((i + 1 : Nat) : Int) := by rw [w64 (by omega) (by omega)]; rfl
   obtain ⟨b, h1, h2⟩ := ih (i + 1) (by omega)
   rw [← w1] at h1
   have pre : ∀ r, Ev _ r → Ev (fun k => spec_l19Fits.l0 k ts xs lo i) r := fun r hr => Ev.step (fun k => spec_l19Fits.l0.eq_2 ..) (Ev.pos li (Ev.bind (sums xs hs lo h i) (Ev.pos i0 hr)))
   by_cases c1 : sL xs lo i lo.length ≤ (rd_T54 ts i).f0
   ·by_cases c2 : sW xs lo i lo.length ≤ (rd_T54 ts i).f1
    ·refine ⟨b, pre _ (Ev.neg (Int.not_lt.2 c1) (Ev.neg (Int.not_lt.2 c2) h1)), h2.trans ⟨fun q j j1 j2 => ?_, fun q j j1 j2 => q j (by omega) j2⟩⟩
     rcases Nat.lt_or_ge i j with g | g
     ·exact q j g j2
     ·obtain rfl : j = i := by omega
      exact ⟨c1, c2⟩
    ·exact ⟨false, pre _ (Ev.neg (Int.not_lt.2 c1) (Ev.pos (Int.not_le.1 c2) (Ev.now _))), ⟨fun q => (by cases q), fun q => absurd (q i (Nat.le_refl _) (by omega)).2 c2⟩⟩
   ·exact ⟨false, pre _ (Ev.pos (Int.not_le.1 c1) (Ev.now _)), ⟨fun q => (by cases q), fun q => absurd (q i (Nat.le_refl _) (by omega)).1 c1⟩⟩
 obtain ⟨b, h1, h2⟩ := main ts.length 0 (by omega)
 exact ⟨b, h1, h2.trans ⟨fun q j hj => q j (by omega) hj, fun q j _ hj => q j hj⟩⟩
def On (n : Nat) (lo : List Int) : Prop := ∀ j : Nat, j < lo.length → -1 ≤ rd lo j ∧ rd lo j < (n : Int)
theorem rdset_self (ys : List Int) (w v : Int) (h0 : 0 ≤ w) (h : w < (ys.length : Int)) : rd (ys.set w.toNat v) w = v := by
 unfold rd
 rw [List.getD_eq_getElem?_getD, List.getElem?_set_self (by omega)]
 rfl
theorem rdset_ne (ys : List Int) (w j v : Int) (h0 : 0 ≤ w) (h1 : 0 ≤ j) (h : j ≠ w) : rd (ys.set w.toNat v) j = rd ys j := by
 unfold rd
 rw [List.getD_eq_getElem?_getD, List.getElem?_set_ne (by omega), ← List.getD_eq_getElem?_getD]
theorem rd_rep (n : Nat) (j : Int) : rd (List.replicate n 0) j = 0 := by
 unfold rd
 rw [List.getD_eq_getElem?_getD, List.getElem?_replicate]
 split <;> rfl
theorem usage (ts : List S54) (ht : ts.length ≤ 1048577) (xs : List S64) (hs : Small xs) (lo : List Int) (h : lo.length ≤ xs.length) (ho : On ts.length lo) : ∃ a b : List Int, a.length = ts.length ∧ b.length = ts.length ∧
  (∀ w : Nat, w < ts.length → rd a w = sL xs lo w lo.length ∧ rd b w = sW xs lo w lo.length) ∧ Ev (fun k => impl_usage.f k ts xs lo) (a, b) := by
 have main : ∀ d i : Nat, i + d = lo.length → ∀ p q : List Int, p.length = ts.length → q.length = ts.length → (∀ w : Nat, w < ts.length → rd p w = sL xs lo w i ∧ rd q w = sW xs lo w i) →
   ∃ a b : List Int, a.length = ts.length ∧ b.length = ts.length ∧ (∀ w : Nat, w < ts.length → rd a w = sL xs lo w lo.length ∧ rd b w = sW xs lo w lo.length) ∧ Ev (fun k => impl_usage.l0 k xs p q lo lo.length i) (a, b) := by
  intro d
  induction d with
  | zero =>
   intro i hi p q hp hq hr
   obtain rfl : i = lo.length := by omega
   exact ⟨p, q, hp, hq, hr, Ev.step (fun k => impl_usage.l0.eq_2 ..) (Ev.neg (by omega) (Ev.now _))⟩
  | succ d ih =>
   intro i hi p q hp hq hr
   have li : (i : Int) < lo.length := by omega
   have lx : (i : Int) < xs.length := by omega
   have l12 : xs.length ≤ 12 := hs.1
   have i0 : (0 : Int) ≤ i := by omega
   have w1 : wrap64 ((i : Int) + 1) = ((i + 1 : Nat) : Int) := by rw [w64 (by omega) (by omega)]; rfl
   have hoi := ho i (by omega)
   have pre : ∀ r, Ev _ r → Ev (fun k => impl_usage.l0 k xs p q lo lo.length i) r := fun r hr => Ev.step (fun k => impl_usage.l0.eq_2 ..) (Ev.pos li (Ev.pos i0 (Ev.pos li hr)))
   by_cases c : rd lo i ≥ 0
   ·have lp : rd lo i < (p.length : Int) := by rw [hp]; exact hoi.2
    have lq : rd lo i < (q.length : Int) := by rw [hq]; exact hoi.2
    have e : ((rd lo i).toNat : Int) = rd lo i := Int.toNat_of_nonneg c
    have r1 := hr (rd lo i).toNat (by omega)
    rw [e] at r1
    have b1 := sL_bd xs hs lo (rd lo i) i (by omega)
    have b2 := sW_bd xs hs lo (rd lo i) i (by omega)
    have h3 := hs.2 i (by omega)
    have e1 : wrap64 (rd p (rd lo i) + (rd_T64 xs i).f1) = sL xs lo (rd lo i) i + (rd_T64 xs i).f1 := by
     rw [r1.1]
     generalize sL xs lo (rd lo i) i = a at *
     generalize (rd_T64 xs i).f1 = b at *
     exact w64 (by omega) (by omega)
    have e2 : wrap64 (rd q (rd lo i) + (rd_T64 xs i).f2) = sW xs lo (rd lo i) i + (rd_T64 xs i).f2 := by
     rw [r1.2]
     generalize sW xs lo (rd lo i) i = a at *
     generalize (rd_T64 xs i).f2 = b at *
     exact w64 (by omega) (by omega)
    obtain ⟨a, b, a1, a2, a3, a4⟩ := ih (i + 1) (by omega) (p.set (rd lo i).toNat (sL xs lo (rd lo i) i + (rd_T64 xs i).f1)) (q.set (rd lo i).toNat (sW xs lo (rd lo i) i + (rd_T64 xs i).f2)) (by simpa using hp) (by simpa using hq) (fun w hw => by
     have := hr w hw
     rw [show sL xs lo w (i + 1) = if rd lo i = w then sL xs lo w i + (rd_T64 xs i).f1 else sL xs lo w i from rfl, show sW xs lo w (i + 1) = if rd lo i = w then sW xs lo w i + (rd_T64 xs i).f2 else sW xs lo w i from rfl]
     by_cases g : rd lo i = w
     ·rw [if_pos g, if_pos g, ← g]
      exact ⟨rdset_self _ _ _ c lp, rdset_self _ _ _ c lq⟩
     ·rw [if_neg g, if_neg g, rdset_ne _ _ _ _ c (by omega) (fun h => g h.symm), rdset_ne _ _ _ _ c (by omega) (fun h => g h.symm)]
      exact this)
    rw [← w1, ← e1, ← e2] at a4
    exact ⟨a, b, a1, a2, a3, pre _ (Ev.pos c (Ev.pos c (Ev.pos lp (Ev.pos lx (Ev.pos lq a4)))))⟩
   ·obtain ⟨a, b, a1, a2, a3, a4⟩ := ih (i + 1) (by omega) p q hp hq (fun w hw => by
     have := hr w hw
     rw [show sL xs lo w (i + 1) = if rd lo i = w then sL xs lo w i + (rd_T64 xs i).f1 else sL xs lo w i from rfl, show sW xs lo w (i + 1) = if rd lo i = w then sW xs lo w i + (rd_T64 xs i).f2 else sW xs lo w i from rfl]
     have g : ¬ rd lo i = w := by omega
     rw [if_neg g, if_neg g]
     exact this)
    rw [← w1] at a4
    exact ⟨a, b, a1, a2, a3, pre _ (Ev.neg c a4)⟩
 obtain ⟨a, b, a1, a2, a3, a4⟩ := main lo.length 0 (by omega) (List.replicate ts.length 0) (List.replicate ts.length 0) (by simp) (by simp) (fun w _ => ⟨rd_rep _ _, rd_rep _ _⟩)
 refine ⟨a, b, a1, a2, a3, ?_⟩
 unfold impl_usage.f
 refine Ev.pos (by omega) (Ev.pos (by omega) ?_)
 rw [Int.toNat_natCast]
 exact a4
theorem isLoaded (ts : List S54) (ht : ts.length ≤ 1048577) (xs : List S64) (hs : Small xs) (lo : List Int) (h : lo.length ≤ xs.length) (ho : On ts.length lo) : ∃ b : Bool, Ev (fun k => impl_isLoaded.f k ts xs lo) b ∧ (b = true ↔ Fit ts xs lo) := by
 obtain ⟨p, q, hp, hq, hr, hu⟩ := usage ts ht xs hs lo h ho
 have main : ∀ d i : Nat, i + d = ts.length → ∃ b : Bool, Ev (fun k => impl_isLoaded.l0 k p q ts ts.length i) b ∧ (b = true ↔ ∀ j : Nat, i ≤ j → j < ts.length → sL xs lo j lo.length ≤ (rd_T54 ts j).f0 ∧ sW xs lo j lo.length ≤ (rd_T54 ts j).f1) := by
  intro d
  induction d with
  | zero =>
   intro i hi
   exact ⟨true, Ev.step (fun k => impl_isLoaded.l0.eq_2 ..) (Ev.neg (by omega) (Ev.now _)), ⟨fun _ j h1 h2 => absurd h2 (by omega), fun _ => rfl⟩⟩
  | succ d ih =>
   intro i hi
   have li : (i : Int) < ts.length := by omega
   have lp : (i : Int) < p.length := by omega
   have lq : (i : Int) < q.length := by omega
   have i0 : (0 : Int) ≤ i := by omega
   have w1 : wrap64 ((i : Int) + 1) = ((i + 1 : Nat) : Int) := by rw [w64 (by omega) (by omega)]; rfl
   obtain ⟨b, h1, h2⟩ := ih (i + 1) (by omega)
   rw [← w1] at h1
   have e := hr i (by omega)
   have pre : ∀ r, Ev _ r → Ev (fun k => impl_isLoaded.l0 k p q ts ts.length i) r := fun r hr => Ev.step (fun k => impl_isLoaded.l0.eq_2 ..) (Ev.pos li (Ev.pos i0 (Ev.pos li (Ev.pos lp hr))))
   rw [e.1] at pre
   rw [e.2] at pre
   by_cases c1 : sL xs lo i lo.length ≤ (rd_T54 ts i).f0
   ·by_cases c2 : sW xs lo i lo.length ≤ (rd_T54 ts i).f1
    ·refine ⟨b, pre _ (Ev.neg (Int.not_lt.2 c1) (Ev.pos lq (Ev.neg (Int.not_lt.2 c2) h1))), h2.trans ⟨fun q j j1 j2 => ?_, fun q j j1 j2 => q j (by omega) j2⟩⟩
     rcases Nat.lt_or_ge i j with g | g
     ·exact q j g j2
     ·obtain rfl : j = i := by omega
      exact ⟨c1, c2⟩
    ·exact ⟨false, pre _ (Ev.neg (Int.not_lt.2 c1) (Ev.pos lq (Ev.pos (Int.not_le.1 c2) (Ev.now _)))), ⟨fun q => (by cases q), fun q => absurd (q i (Nat.le_refl _) (by omega)).2 c2⟩⟩
   ·exact ⟨false, pre _ (Ev.pos (Int.not_le.1 c1) (Ev.now _)), ⟨fun q => (by cases q), fun q => absurd (q i (Nat.le_refl _) (by omega)).1 c1⟩⟩
 obtain ⟨b, h1, h2⟩ := main ts.length 0 (by omega)
 exact ⟨b, by unfold impl_isLoaded.f; exact Ev.bind hu h1, h2.trans ⟨fun q j hj => q j (by omega) hj, fun q j _ hj => q j hj⟩⟩
def Load (ts : List S54) (xs : List S64) (lo : List Int) : Prop := Train ts ∧ Conts xs ∧ lo.length = xs.length ∧ On ts.length lo ∧ Fit ts xs lo
theorem goodLoop (ts : List S54) (ht : ts.length ≤ 1048577) (xs : List S64) (hs : Small xs) (lo : List Int) (h : lo.length ≤ xs.length) : ∀ d i : Nat, i + d = lo.length → ∃ b : Bool, Ev (fun k => spec_l19Good.l0 k ts xs lo i) b ∧ (b = true ↔ (∀ j : Nat, i ≤ j → j < lo.length → -1 ≤ rd lo j ∧ rd lo j < (ts.length : Int)) ∧ Fit ts xs lo) := by
 intro d
 induction d with
 | zero =>
  intro i hi
  obtain ⟨b, b1, b2⟩ := fits ts ht xs hs lo h
  exact ⟨b, Ev.step (fun k => spec_l19Good.l0.eq_2 ..) (Ev.neg (by omega) (Ev.bind b1 (Ev.now _))), b2.trans ⟨fun q => ⟨fun j h1 h2 => absurd h2 (by omega), q⟩, fun q => q.2⟩⟩
 | succ d ih =>
  intro i hi
  have li : (i : Int) < lo.length := by omega
  have l12 : xs.length ≤ 12 := hs.1
  have i0 : (0 : Int) ≤ i := by omega
  have wt : wrap64 ((ts.length : Int) - 1) = (ts.length : Int) - 1 := w64 (by omega) (by omega)
  have w1 : wrap64 ((i : Int) + 1) = ((i + 1 : Nat) : Int) := by rw [w64 (by omega) (by omega)]; rfl
  obtain ⟨b, h1, h2⟩ := ih (i + 1) (by omega)
  rw [← w1] at h1
  have pre : ∀ r, Ev _ r → Ev (fun k => spec_l19Good.l0 k ts xs lo i) r := fun r hr => Ev.step (fun k => spec_l19Good.l0.eq_2 ..) (Ev.pos li (Ev.pos i0 (Ev.const (l1In_eq _ _ _) hr)))
  rw [wt] at pre
  by_cases c : -1 ≤ rd lo i ∧ rd lo i ≤ (ts.length : Int) - 1
  ·refine ⟨b, pre _ (Ev.pos (decide_eq_true c) h1), h2.trans ⟨fun q => ⟨fun j j1 j2 => ?_, q.2⟩, fun q => ⟨fun j j1 j2 => q.1 j (by omega) j2, q.2⟩⟩⟩
   rcases Nat.lt_or_ge i j with g | g
   ·exact q.1 j g j2
   ·obtain rfl : j = i := by omega
    exact ⟨c.1, by omega⟩
  ·refine ⟨false, pre _ (Ev.neg (fun q => c (of_decide_eq_true q)) (Ev.now _)), ⟨fun q => (by cases q), fun q => absurd (q.1 i (Nat.le_refl _) (by omega)) (fun z => c ⟨z.1, by omega⟩)⟩⟩
theorem off (ts : List S54) (ht : ts.length ≤ 1048577) (lo : List Int) (hl : lo.length ≤ 1048577) : ∀ d i : Nat, i + d = lo.length → ∃ t : Int, Ev (fun k => slices_IndexFunc_int.l0 k lo lo.length i ts) t ∧ (t ≥ 0 ↔ ¬ ∀ j : Nat, i ≤ j → j < lo.length → -1 ≤ rd lo j ∧ rd lo j < (ts.length : Int)) := by
 intro d
 induction d with
 | zero =>
  intro i hi
  exact ⟨-1, Ev.step (fun k => slices_IndexFunc_int.l0.eq_2 ..) (Ev.neg (by omega) (Ev.now _)), ⟨fun h => absurd h (by omega), fun h => absurd (fun j h1 h2 => absurd h2 (by omega)) h⟩⟩
 | succ d ih =>
  intro i hi
  have li : (i : Int) < lo.length := by omega
  have i0 : (0 : Int) ≤ i := by omega
  have wt : wrap64 ((ts.length : Int) - 1) = (ts.length : Int) - 1 := w64 (by omega) (by omega)
  have w1 : wrap64 ((i : Int) + 1) = ((i + 1 : Nat) : Int) := by rw [w64 (by omega) (by omega)]; rfl
  obtain ⟨t, h1, h2⟩ := ih (i + 1) (by omega)
  rw [← w1] at h1
  have no : impl_IsValidLoading_1.f (rd lo i) ts = some (!decide (-1 ≤ rd lo i ∧ rd lo i ≤ (ts.length : Int) - 1)) := by
   unfold impl_IsValidLoading_1.f
   rw [wt, within_eq]
   rfl
  have pre : ∀ r, Ev _ r → Ev (fun k => slices_IndexFunc_int.l0 k lo lo.length i ts) r := fun r hr => Ev.step (fun k => slices_IndexFunc_int.l0.eq_2 ..) (Ev.pos li (Ev.pos i0 (Ev.pos li (Ev.const no hr))))
  by_cases c : -1 ≤ rd lo i ∧ rd lo i ≤ (ts.length : Int) - 1
  ·refine ⟨t, pre _ (Ev.neg ?_ h1), h2.trans ⟨fun q z => q (fun j j1 j2 => z j (by omega) j2), fun q z => q (fun j j1 j2 => ?_)⟩⟩
   ·rw [decide_eq_true c]
    exact fun h => by cases h
   ·rcases Nat.lt_or_ge i j with g | g
    ·exact z j g j2
    ·obtain rfl : j = i := by omega
     exact ⟨c.1, by omega⟩
  ·refine ⟨i, pre _ (Ev.pos ?_ (Ev.now _)), ⟨fun _ z => c ?_, fun _ => by omega⟩⟩
   ·rw [decide_eq_false c]
    rfl
   ·have := z i (Nat.le_refl _) (by omega)
    exact ⟨this.1, by omega⟩
theorem good (ts : List S54) (ht : ts.length ≤ 1048577) (xs : List S64) (hx : xs.length ≤ 1048577) (lo : List Int) (hl : lo.length ≤ 1048577) : ∃ b : Bool, Ev (fun k => spec_l19Good.f k ts xs lo) b ∧ Ev (fun k => impl_IsValidLoading.f k ts xs lo) b ∧ (b = true ↔ Load ts xs lo) := by
 unfold spec_l19Good.f impl_IsValidLoading.f
 obtain ⟨p, p1, p2, p3⟩ := train ts ht
 obtain ⟨q, q1, q2, q3⟩ := conts xs hx
 have sj : ∀ z : Bool, z = true → Ev (fun k => spec_l19Good.j0 k ts xs lo z) false := fun z hz => Ev.step (fun k => spec_l19Good.j0.eq_2 ..) (Ev.pos hz (Ev.now _))
 have ij : ∀ z : Bool, z = true → Ev (fun k => impl_IsValidLoading.j0 k xs lo z ts) false := fun z hz => Ev.step (fun k => impl_IsValidLoading.j0.eq_2 ..) (Ev.pos hz (Ev.now _))
 by_cases cp : p = true
 ·by_cases cq : q = true
  ·by_cases cl : (lo.length : Int) = (xs.length : Int)
   ·have hs := small xs (q3.1 cq)
    have hle : lo.length ≤ xs.length := by omega
    have ne : ((lo.length : Int) != (xs.length : Int)) = false := by rw [cl]; simp
    obtain ⟨b, b1, b2⟩ := goodLoop ts ht xs hs lo hle lo.length 0 (by omega)
    obtain ⟨t, t1, t2⟩ := off ts ht lo hl lo.length 0 (by omega)
    have S : Ev (fun k => spec_l19Good.j0 k ts xs lo ((lo.length : Int) != (xs.length : Int))) b := Ev.step (fun k => spec_l19Good.j0.eq_2 ..) (Ev.neg (by rw [ne]; exact fun h => by cases h) b1)
    have F : Ev (fun k => slices_ContainsFunc_int.f k lo ts) (decide (t ≥ 0)) := by
     unfold slices_ContainsFunc_int.f slices_IndexFunc_int.f
     exact Ev.bind t1 (Ev.now _)
    have I0 : ∀ r, Ev _ r → Ev (fun k => impl_IsValidLoading.j0 k xs lo ((lo.length : Int) != (xs.length : Int)) ts) r := fun r hr => Ev.step (fun k => impl_IsValidLoading.j0.eq_2 ..) (Ev.neg (by rw [ne]; exact fun h => by cases h) (Ev.bind F hr))
    by_cases co : On ts.length lo
    ·have ct : ¬ t ≥ 0 := fun h => t2.1 h (fun j _ hj => co j hj)
     obtain ⟨c, c1, c2⟩ := isLoaded ts ht xs hs lo hle co
     have e : b = c := by
      have : b = true ↔ c = true := b2.trans ⟨fun z => c2.2 z.2, fun z => ⟨fun j _ hj => co j hj, c2.1 z⟩⟩
      cases b <;> cases c <;> simp_all
     subst e
     exact ⟨b, Ev.bind p1 (Ev.pos cp (Ev.bind q1 (Ev.pos cq S))), Ev.bind p2 (Ev.pos cp (Ev.bind q2 (Ev.pos cq (I0 _ (Ev.neg (fun h => ct (of_decide_eq_true h)) (Ev.bind c1 (Ev.now _))))))), c2.trans ⟨fun z => ⟨p3.1 cp, q3.1 cq, by omega, co, z⟩, fun z => z.2.2.2.2⟩⟩
    ·have ct : t ≥ 0 := t2.2 (fun h => co (fun j hj => h j (by omega) hj))
     have e : b = false := by
      rcases b with _ | _
      ·rfl
      ·exact absurd (fun j hj => (b2.1 rfl).1 j (by omega) hj) co
     subst e
     exact ⟨false, Ev.bind p1 (Ev.pos cp (Ev.bind q1 (Ev.pos cq S))), Ev.bind p2 (Ev.pos cp (Ev.bind q2 (Ev.pos cq (I0 _ (Ev.pos (decide_eq_true ct) (Ev.now _)))))), ⟨fun h => (by cases h), fun z => absurd z.2.2.2.1 co⟩⟩
   ·have ne : ((lo.length : Int) != (xs.length : Int)) = true := by simp; omega
    exact ⟨false, Ev.bind p1 (Ev.pos cp (Ev.bind q1 (Ev.pos cq (sj _ ne)))), Ev.bind p2 (Ev.pos cp (Ev.bind q2 (Ev.pos cq (ij _ ne)))), ⟨fun h => (by cases h), fun z => absurd z.2.2.1 (by omega)⟩⟩
  ·exact ⟨false, Ev.bind p1 (Ev.pos cp (Ev.bind q1 (Ev.neg cq (sj _ rfl)))), Ev.bind p2 (Ev.pos cp (Ev.bind q2 (Ev.neg cq (ij _ rfl)))), ⟨fun h => (by cases h), fun z => absurd (q3.2 z.2.1) cq⟩⟩
 ·exact ⟨false, Ev.bind p1 (Ev.neg cp (sj _ rfl)), Ev.bind p2 (Ev.neg cp (ij _ rfl)), ⟨fun h => (by cases h), fun z => absurd (p3.2 z.1) cp⟩⟩
def FarL {α : Type} (m a : Int) (r : List α × Int × Int) : Prop := r.1.length ≤ 30 ∧ a ≤ r.2.1 ∧ r.2.1 ≤ a + m
theorem FarL.up {α : Type} {m m' a a' : Int} {r : List α × Int × Int} (h : FarL m a r) (h1 : a' ≤ a) (h2 : a + m ≤ a' + m') : FarL m' a' r := ⟨h.1, by have := h.2; omega, by have := h.2; omega⟩
theorem draw_train_more {c : List Int} (hc : Bytes c) (x7 y z : Int) (h7 : 0 ≤ x7) : ∀ (d : Nat) (xs : List S54) (a s : Int), 10 ≤ xs.length + d → x7 < xs.length → xs.length ≤ 10 → 0 ≤ a → a ≤ 1000000000000000000 - 2 * d →
  Has (fun k => spec_l1Cur_train.l1 k xs x7 c a s y z) (FarL (2 * d + 2) a) := by
 intro d
 induction d with
 | zero =>
  intro xs a s hl hx h30 h0 h1
  refine Has.step (fun k => spec_l1Cur_train.l1.eq_2 ..) (Has.bind (pick hc s 2 h0 (by omega)) fun r ⟨r0, r1, _, r3, r4⟩ => ?_)
  have r5 := r1 (by omega)
  rw [show wrap64 (8 + r.1) = 8 + r.1 from w64 (by omega) (by omega)]
  exact Has.neg (by omega) (Has.pos h7 (Has.pos hx (Has.now ⟨by simp only [List.length_set]; omega, by simp only; omega, by simp only; omega⟩)))
 | succ d ih =>
  intro xs a s hl hx h30 h0 h1
  refine Has.step (fun k => spec_l1Cur_train.l1.eq_2 ..) (Has.bind (pick hc s 2 h0 (by omega)) fun r ⟨r0, r1, _, r3, r4⟩ => ?_)
  have r5 := r1 (by omega)
  rw [show wrap64 (8 + r.1) = 8 + r.1 from w64 (by omega) (by omega)]
  refine Has.ite (fun q => Has.pos (by omega) ?_) (fun _ => Has.pos h7 (Has.pos hx (Has.now ⟨by simp only [List.length_set]; omega, by simp only; omega, by simp only; omega⟩)))
  exact Has.mono (ih _ r.2.1 r.2.2 (by simp; omega) (by simp; omega) (by simp; omega) (by omega) (by omega)) fun b hb => hb.up (by omega) (by omega)
theorem draw_train_at {c : List Int} (hc : Bytes c) : ∀ (n : Nat) (xs : List S54) (a s : Int), xs.length + n ≤ 8 → 0 < xs.length + n → 0 ≤ a → a ≤ 100000000000000000 - 4 * n →
  Has (fun k => spec_l1Cur_train.l0 k xs n c a s) (FarL (4 * n + 40) a) := by
 intro n
 induction n with
 | zero =>
  intro xs a s hl hp h0 h1
  refine Has.step (fun k => spec_l1Cur_train.l0.eq_2 ..) (Has.neg (by omega) ?_)
  refine Has.bind (pick hc s _ h0 (by omega)) fun i ⟨i0, i1, i2, i3, i4⟩ => ?_
  have i5 : i.1 < (xs.length : Int) := by
   rcases Int.lt_or_le 1 (xs.length : Int) with h | h
   ·exact i1 h
   ·have := i2 h
    omega
  refine Has.pos i0 (Has.pos i5 (Has.bind (pick hc i.2.2 40 (by omega) (by omega)) fun r ⟨r0, r1, _, r3, r4⟩ => ?_))
  refine Has.ite (fun _ => ?_) (fun _ => Has.ite (fun _ => ?_) (fun _ => Has.ite (fun _ => ?_) (fun _ => ?_)))
  ·exact Has.bind (among hc r.2.2 _ (by simp) (by omega) (by omega)) fun q ⟨_, q1, q2⟩ => Has.now ⟨by simp only [List.length_set]; omega, by simp only; omega, by simp only; omega⟩
  ·exact Has.bind (among hc r.2.2 _ (by simp) (by omega) (by omega)) fun q ⟨_, q1, q2⟩ => Has.now ⟨by simp only [List.length_set]; omega, by simp only; omega, by simp only; omega⟩
  ·exact Has.mono (draw_train_more hc i.1 _ _ i0 10 xs r.2.1 r.2.2 (by omega) i5 (by omega) (by omega) (by omega)) fun b hb => hb.up (by omega) (by omega)
  ·exact Has.now ⟨by simp only [List.length_set]; omega, by simp only; omega, by simp only; omega⟩
 | succ n ih =>
  intro xs a s hl hp h0 h1
  refine Has.step (fun k => spec_l1Cur_train.l0.eq_2 ..) (Has.pos (by omega) ?_)
  rw [show wrap64 (((n + 1 : Nat) : Int) - 1) = (n : Int) from by rw [w64 (by omega) (by omega)]; omega]
  refine Has.bind (pick hc s 3 h0 (by omega)) fun q ⟨_, _, _, q1, q2⟩ => ?_
  refine Has.bind (among hc q.2.2 _ (by simp) (by omega) (by omega)) fun u ⟨_, u1, u2⟩ => ?_
  exact Has.pos (by omega) (Has.mono (ih _ u.2.1 u.2.2 (by simp; omega) (by simp; omega) (by omega) (by omega)) fun b hb => hb.up (by omega) (by omega))
theorem draw_train {c : List Int} (hc : Bytes c) {a : Int} (s : Int) (h0 : 0 ≤ a) (h1 : a ≤ 10000000000000000) : Has (fun k => spec_l1Cur_train.f k c a s 4) (FarL 100 a) := by
 unfold spec_l1Cur_train.f
 refine Has.bind (pick hc s 4 h0 (by omega)) fun r ⟨r0, r1, _, r3, r4⟩ => ?_
 have r5 := r1 (by omega)
 rw [show wrap64 (1 + r.1) = (((1 + r.1).toNat : Nat) : Int) from by rw [w64 (by omega) (by omega)]; omega]
 exact Has.mono (draw_train_at hc (1 + r.1).toNat [] r.2.1 r.2.2 (by simp; omega) (by simp; omega) (by omega) (by omega)) fun b hb => hb.up (by omega) (by omega)
theorem digSize (d : Int) (h0 : 0 ≤ d) (h9 : d ≤ 9) : ((⟨#[48, 49, 50, 51, 52, 53, 54, 55, 56, 57]⟩ : ByteArray).extract d.toNat (d + 1).toNat).size = 1 := by
 rw [ByteArray.size_extract]
 show min (d + 1).toNat 10 - d.toNat = 1
 omega
theorem numStep {Q : ByteArray → Prop} (n : Int) (h0 : 0 ≤ n) (h1 : n ≤ 1000000) (t : ByteArray) (ht : t.size ≤ 1000) (p : Int) (p0 : 0 < p) (p1 : p ≤ 1000) (h : ∀ y : ByteArray, y.size = t.size + 1 → Has (fun k => spec_l2Number.l0 k n y (p / 10)) Q) : Has (fun k => spec_l2Number.l0 k n t p) Q := by
 have e : wrap64 (Int.tdiv n p) = n / p := by
  rw [Int.tdiv_eq_ediv_of_nonneg h0]
  have b0 := Int.ediv_nonneg h0 (show 0 ≤ p by omega)
  have b1 := Int.ediv_le_self p h0
  exact w64 (by omega) (by omega)
 have b0 := Int.ediv_nonneg h0 (show 0 ≤ p by omega)
 have ep : wrap64 (Int.tdiv p 10) = p / 10 := by
  rw [Int.tdiv_eq_ediv_of_nonneg (by omega)]
  exact w64 (by omega) (by omega)
 refine Has.step (fun k => spec_l2Number.l0.eq_2 ..) (Has.pos p0 (Has.neg (by omega) ?_))
 rw [e, ep, Int.tmod_eq_emod_of_nonneg b0]
 generalize n / p = z at b0
 clear e ep
 have d0 : 0 ≤ z % 10 := by omega
 have d9 : z % 10 ≤ 9 := by omega
 generalize z % 10 = d at d0 d9
 rw [show wrap64 (d + 1) = d + 1 from w64 (by omega) (by omega)]
 have ds := digSize d d0 d9
 exact Has.pos d0 (Has.pos (by omega) (Has.pos (by omega) (Has.pos (by omega) (h _ (by rw [ByteArray.size_append, ds])))))
theorem number (t : ByteArray) (ht : t.size = 3) (n : Int) (h0 : 0 ≤ n) (h1 : n ≤ 1000000) : Has (fun k => spec_l2Number.f k t n) (fun r => r.size = 8) := by
 unfold spec_l2Number.f
 refine numStep n h0 h1 t (by omega) 1000 (by omega) (by omega) fun u hu => ?_
 rw [show (1000 : Int) / 10 = 100 from rfl]
 refine numStep n h0 h1 u (by omega) 100 (by omega) (by omega) fun v hv => ?_
 rw [show (100 : Int) / 10 = 10 from rfl]
 refine numStep n h0 h1 v (by omega) 10 (by omega) (by omega) fun w hw => ?_
 rw [show (10 : Int) / 10 = 1 from rfl]
 refine numStep n h0 h1 w (by omega) 1 (by omega) (by omega) fun x hx => ?_
 rw [show (1 : Int) / 10 = 0 from rfl]
 refine Has.step (fun k => spec_l2Number.l0.eq_2 ..) (Has.neg (by omega) (Has.bind (check7 x (by omega)) fun q _ => Has.val (Has.pos (by rw [strOne]; omega) (Has.now ?_))))
 rw [ByteArray.size_append, strOne]
 omega
theorem draw_id {c : List Int} (hc : Bytes c) {a : Int} (s : Int) (h0 : 0 ≤ a) (h1 : a ≤ 1000000000000000000) : Has (fun k => spec_l1Cur_id.f k c a s) (fun r => r.1.size = 8 ∧ a ≤ r.2.1 ∧ r.2.1 ≤ a + 6) := by
 unfold spec_l1Cur_id.f
 refine Has.bind (drawOf hc s _ (by simp) h0 (by omega)) fun r ⟨r0, r1, r2⟩ => ?_
 have sz : r.1.size = 3 := by
  simp only [List.mem_cons, List.not_mem_nil, or_false] at r0
  rcases r0 with h | h | h | h <;> rw [h] <;> rfl
 refine Has.bind (pick hc r.2.2 200 (by omega) (by omega)) fun p ⟨p0, p1, _, p3, p4⟩ => ?_
 have p5 := p1 (by omega)
 refine Has.bind (among hc p.2.2 _ (by simp) (by omega) (by omega)) fun q ⟨q0, q1, q2⟩ => ?_
 have pq : 0 ≤ p.1 * q.1 ∧ p.1 * q.1 ≤ 1000000 := by
  simp only [List.mem_cons, List.not_mem_nil, or_false] at q0
  rcases q0 with h | h | h <;> rw [h] <;> omega
 rw [show wrap64 (p.1 * q.1) = p.1 * q.1 from w64 (by omega) (by omega)]
 exact Has.bind (number r.1 sz _ pq.1 pq.2) fun t ht => Has.now ⟨ht, by simp only; omega, by simp only; omega⟩
theorem draw_container {c : List Int} (hc : Bytes c) {a : Int} (s : Int) (h0 : 0 ≤ a) (h1 : a ≤ 100000000000000000) : Has (fun k => spec_l1Cur_container.f k c a s) (fun r => a ≤ r.2.2.2.2.2.1 ∧ r.2.2.2.2.2.1 ≤ a + 14) := by
 unfold spec_l1Cur_container.f
 refine Has.bind (draw_id hc s h0 (by omega)) fun r ⟨_, r1, r2⟩ => Has.bind (pick hc r.2.2 2 (by omega) (by omega)) fun p ⟨_, _, _, p3, p4⟩ => ?_
 refine Has.bind (among hc p.2.2 _ (by simp) (by omega) (by omega)) fun q ⟨_, q1, q2⟩ => Has.bind (among hc q.2.2 _ (by simp) (by omega) (by omega)) fun u ⟨_, u1, u2⟩ => ?_
 exact Has.bind (pick hc u.2.2 4 (by omega) (by omega)) fun v ⟨_, _, _, v3, v4⟩ => Has.now ⟨by simp only; omega, by simp only; omega⟩
theorem draw_spoilt {c : List Int} (hc : Bytes c) {a : Int} (s : Int) (t : ByteArray) (ht : t.size = 8) (w : ByteArray) (hw : w.size = 4) (h0 : 0 ≤ a) (h1 : a ≤ 1000000000000000000) : Has (fun _ => spec_l1Cur_spoilt.f c a s t w) (fun r => a ≤ r.2.1 ∧ r.2.1 ≤ a + 6) := by
 unfold spec_l1Cur_spoilt.f
 refine Has.ite (fun _ => Has.pos (by omega) (Has.pos (by omega) (Has.now ⟨by simp only; omega, by simp only; omega⟩))) (fun _ => ?_)
 refine Has.bind (pick hc s _ h0 (by omega)) fun i ⟨i0, i1, _, i3, i4⟩ => ?_
 have i5 := i1 (by omega)
 refine Has.bind (pick hc i.2.2 _ (by omega) (by omega)) fun j ⟨j0, j1, _, j3, j4⟩ => ?_
 have j5 := j1 (by omega)
 rw [show wrap64 (i.1 + 1) = i.1 + 1 from w64 (by omega) (by omega)]
 refine Has.pos j0 (Has.pos (by omega) (Has.pos (by omega) (Has.pos (by rw [ByteArray.size_extract]; omega) (Has.bind (pick hc j.2.2 3 (by omega) (by omega)) fun q ⟨_, _, _, q3, q4⟩ => ?_))))
 have fin : a ≤ q.2.1 ∧ q.2.1 ≤ a + 6 := by omega
 refine Has.ite (fun _ => Has.pos i0 (Has.pos (by omega) ?_)) (fun _ => Has.ite (fun _ => Has.pos i0 (Has.pos (by omega) ?_)) (fun _ => Has.pos i0 (Has.pos (by omega) ?_)))
 ·exact Has.pos (by simp only [ByteArray.size_append, ByteArray.size_extract]; omega) (Has.pos (by simp only [ByteArray.size_append, ByteArray.size_extract]; omega) (Has.now fin))
 ·exact Has.pos (by simp only [ByteArray.size_append, ByteArray.size_extract]; omega) (Has.pos (by omega) (Has.pos (by omega) (Has.pos (by simp only [ByteArray.size_append, ByteArray.size_extract]; omega) (Has.now fin))))
 ·exact Has.pos (by omega) (Has.pos (by omega) (Has.pos (by simp only [ByteArray.size_append, ByteArray.size_extract]; omega) (Has.now fin)))
theorem draw_anyId {c : List Int} (hc : Bytes c) {a : Int} (s : Int) (h0 : 0 ≤ a) (h1 : a ≤ 100000000000000000) : Has (fun k => spec_l1Cur_anyId.f k c a s) (fun r => a ≤ r.2.1 ∧ r.2.1 ≤ a + 16) := by
 unfold spec_l1Cur_anyId.f
 have j : ∀ (t : ByteArray) (b u : Int), a ≤ b → b ≤ a + 14 → Has (fun k => spec_l1Cur_anyId.j0 k t c b u) (fun r => a ≤ r.2.1 ∧ r.2.1 ≤ a + 16) := by
  intro t b u b0 b1
  refine Has.step (fun k => spec_l1Cur_anyId.j0.eq_2 ..) (Has.bind (one hc u 24 (by omega) (by omega)) fun q ⟨q1, q2⟩ => Has.ite (fun _ => ?_) (fun _ => Has.now ⟨by simp only; omega, by simp only; omega⟩))
  exact Has.bind (number _ rfl 9999 (by omega) (by omega)) fun t _ => Has.now ⟨by simp only; omega, by simp only; omega⟩
 refine Has.bind (draw_id hc s h0 (by omega)) fun r ⟨r0, r1, r2⟩ => Has.bind (one hc r.2.2 8 (by omega) (by omega)) fun q ⟨q1, q2⟩ => Has.ite (fun _ => ?_) (fun _ => j _ _ _ (by omega) (by omega))
 exact Has.bind (draw_spoilt hc q.2.2 r.1 r0 _ rfl (by omega) (by omega)) fun v ⟨v1, v2⟩ => j _ _ _ (by omega) (by omega)
theorem draw_anyContainer {c : List Int} (hc : Bytes c) {a : Int} (s : Int) (h0 : 0 ≤ a) (h1 : a ≤ 10000000000000000) : Has (fun k => spec_l1Cur_anyContainer.f k c a s) (fun r => a ≤ r.2.2.2.2.2.1 ∧ r.2.2.2.2.2.1 ≤ a + 32) := by
 unfold spec_l1Cur_anyContainer.f
 refine Has.bind (draw_container hc s h0 (by omega)) fun r ⟨r1, r2⟩ => Has.bind (pick hc r.2.2.2.2.2.2 24 (by omega) (by omega)) fun p ⟨_, _, _, p3, p4⟩ => ?_
 refine Has.ite (fun _ => Has.bind (draw_anyId hc p.2.2 (by omega) (by omega)) fun q ⟨q1, q2⟩ => Has.now ⟨by simp only; omega, by simp only; omega⟩) (fun _ => ?_)
 refine Has.ite (fun _ => ?_) (fun _ => Has.ite (fun _ => ?_) (fun _ => Has.ite (fun _ => ?_) (fun _ => Has.ite (fun _ => ?_) (fun _ => Has.now ⟨by simp only; omega, by simp only; omega⟩))))
 all_goals exact Has.bind (among hc p.2.2 _ (by simp) (by omega) (by omega)) fun q ⟨_, q1, q2⟩ => Has.now ⟨by simp only; omega, by simp only; omega⟩
theorem draw_conts_more {c : List Int} (hc : Bytes c) : ∀ (d i : Nat) (xs : List S64) (a s : Int), i + d = 14 → xs.length + d ≤ 30 → 0 ≤ a → a ≤ 1000000000000000000 - 2 * d →
  Has (fun k => spec_l1Cur_containers.l1 k xs i c a s) (FarL (2 * d + 2) a) := by
 intro d
 induction d with
 | zero =>
  intro i xs a s hi hl h0 h1
  refine Has.step (fun k => spec_l1Cur_containers.l1.eq_2 ..) (Has.bind (pick hc s 2 h0 (by omega)) fun r ⟨r0, r1, _, r3, r4⟩ => ?_)
  exact Has.ite (fun _ => Has.neg (by omega) (Has.now ⟨by simp only; omega, by simp only; omega, by simp only; omega⟩)) (fun _ => Has.now ⟨by simp only; omega, by simp only; omega, by simp only; omega⟩)
 | succ d ih =>
  intro i xs a s hi hl h0 h1
  refine Has.step (fun k => spec_l1Cur_containers.l1.eq_2 ..) (Has.bind (pick hc s 2 h0 (by omega)) fun r ⟨r0, r1, _, r3, r4⟩ => ?_)
  refine Has.ite (fun _ => Has.pos (by omega) (Has.bind (number _ rfl i (by omega) (by omega)) fun t _ => Has.pos (by omega) ?_)) (fun _ => Has.now ⟨by simp only; omega, by simp only; omega, by simp only; omega⟩)
  rw [show wrap64 ((i : Int) + 1) = ((i + 1 : Nat) : Int) from by rw [w64 (by omega) (by omega)]; rfl]
  exact Has.mono (ih (i + 1) _ r.2.1 r.2.2 (by omega) (by simp; omega) (by omega) (by omega)) fun b hb => hb.up (by omega) (by omega)
theorem draw_conts_at {c : List Int} (hc : Bytes c) : ∀ (n : Nat) (xs : List S64) (a s : Int), xs.length + n ≤ 8 → 0 ≤ a → a ≤ 1000000000000000 - 14 * n →
  Has (fun k => spec_l1Cur_containers.l0 k xs n c a s) (FarL (14 * n + 60) a) := by
 intro n
 induction n with
 | zero =>
  intro xs a s hl h0 h1
  refine Has.step (fun k => spec_l1Cur_containers.l0.eq_2 ..) (Has.neg (by omega) (Has.bind (pick hc s 20 h0 (by omega)) fun r ⟨r0, r1, _, r3, r4⟩ => ?_))
  refine Has.ite (fun _ => ?_) (fun _ => Has.ite (fun _ => Has.ite (fun hp => ?_) (fun _ => Has.now ⟨by simp only; omega, by simp only; omega, by simp only; omega⟩)) (fun _ => Has.ite (fun _ => ?_) (fun _ => Has.now ⟨by simp only; omega, by simp only; omega, by simp only; omega⟩)))
  ·exact Has.bind (draw_anyContainer hc r.2.2 (by omega) (by omega)) fun q ⟨q1, q2⟩ => Has.pos (by omega) (Has.now ⟨by simp only [List.length_append, List.length_singleton]; omega, by simp only; omega, by simp only; omega⟩)
  ·refine Has.bind (pick hc r.2.2 _ (by omega) (by omega)) fun i ⟨i0, i1, i2, i3, i4⟩ => ?_
   have i5 : i.1 < (xs.length : Int) := by
    rcases Int.lt_or_le 1 (xs.length : Int) with h | h
    ·exact i1 h
    ·have := i2 h
     omega
   exact Has.pos i0 (Has.pos i5 (Has.pos (by omega) (Has.now ⟨by simp only [List.length_append, List.length_singleton]; omega, by simp only; omega, by simp only; omega⟩)))
  ·exact Has.mono (draw_conts_more hc 14 0 xs r.2.1 r.2.2 (by omega) (by omega) (by omega) (by omega)) fun b hb => hb.up (by omega) (by omega)
 | succ n ih =>
  intro xs a s hl h0 h1
  refine Has.step (fun k => spec_l1Cur_containers.l0.eq_2 ..) (Has.pos (by omega) ?_)
  rw [show wrap64 (((n + 1 : Nat) : Int) - 1) = (n : Int) from by rw [w64 (by omega) (by omega)]; omega]
  refine Has.bind (draw_container hc s h0 (by omega)) fun q ⟨q1, q2⟩ => ?_
  obtain ⟨t, t1, _⟩ := find_spec xs (by omega) q.1 xs.length 0 (by omega)
  have F : Ev (fun k => spec_l2Find.f k xs q.1) t := by unfold spec_l2Find.f; exact t1
  refine Has.ev F (Has.ite (fun _ => Has.pos (by omega) ?_) (fun _ => ?_))
  ·exact Has.mono (ih _ _ _ (by simp; omega) (by omega) (by omega)) fun b hb => hb.up (by omega) (by omega)
  ·exact Has.mono (ih _ _ _ (by omega) (by omega) (by omega)) fun b hb => hb.up (by omega) (by omega)
theorem draw_conts {c : List Int} (hc : Bytes c) {a : Int} (s : Int) (h0 : 0 ≤ a) (h1 : a ≤ 100000000000000) : Has (fun k => spec_l1Cur_containers.f k c a s) (FarL 200 a) := by
 unfold spec_l1Cur_containers.f
 refine Has.bind (pick hc s 8 h0 (by omega)) fun r ⟨r0, r1, _, r3, r4⟩ => ?_
 have r5 := r1 (by omega)
 rw [show r.1 = ((r.1.toNat : Nat) : Int) by omega]
 exact Has.mono (draw_conts_at hc r.1.toNat [] r.2.1 r.2.2 (by simp; omega) (by omega) (by omega)) fun b hb => hb.up (by omega) (by omega)
theorem sumsAny (xs : List S64) (lo : List Int) (h : lo.length ≤ xs.length) (hx : xs.length ≤ 1000) (w : Int) : Has (fun k => spec_l19Sums.f k xs lo w) (fun _ => True) := by
 unfold spec_l19Sums.f
 have main : ∀ d i : Nat, i + d = lo.length → ∀ a b : Int, Has (fun k => spec_l19Sums.l0 k xs lo w a b i) (fun _ => True) := by
  intro d
  induction d with
  | zero =>
   intro i hi a b
   exact Has.step (fun k => spec_l19Sums.l0.eq_2 ..) (Has.neg (by omega) (Has.now trivial))
  | succ d ih =>
   intro i hi a b
   refine Has.step (fun k => spec_l19Sums.l0.eq_2 ..) (Has.pos (by omega) (Has.pos (by omega) ?_))
   rw [show wrap64 ((i : Int) + 1) = ((i + 1 : Nat) : Int) from by rw [w64 (by omega) (by omega)]; rfl]
   exact Has.ite (fun _ => Has.pos (by omega) (ih (i + 1) (by omega) _ _)) (fun _ => ih (i + 1) (by omega) _ _)
 exact main lo.length 0 (by omega) 0 0
theorem fitsAny (ts : List S54) (ht : ts.length ≤ 1000) (xs : List S64) (lo : List Int) (h : lo.length ≤ xs.length) (hx : xs.length ≤ 1000) : Has (fun k => spec_l19Fits.f k ts xs lo) (fun _ => True) := by
 unfold spec_l19Fits.f
 have main : ∀ d i : Nat, i + d = ts.length → Has (fun k => spec_l19Fits.l0 k ts xs lo i) (fun _ => True) := by
  intro d
  induction d with
  | zero =>
   intro i hi
   exact Has.step (fun k => spec_l19Fits.l0.eq_2 ..) (Has.neg (by omega) (Has.now trivial))
  | succ d ih =>
   intro i hi
   refine Has.step (fun k => spec_l19Fits.l0.eq_2 ..) (Has.pos (by omega) (Has.bind (sumsAny xs lo h hx i) fun r _ => Has.pos (by omega) ?_))
   rw [show wrap64 ((i : Int) + 1) = ((i + 1 : Nat) : Int) from by rw [w64 (by omega) (by omega)]; rfl]
   exact Has.ite (fun _ => Has.now trivial) (fun _ => Has.ite (fun _ => Has.now trivial) (fun _ => ih (i + 1) (by omega)))
 exact main ts.length 0 (by omega)
theorem orderAny (ts : List S54) (ht : ts.length ≤ 1000) (xs : List S64) (hx : xs.length ≤ 1000) : Has (fun k => spec_l19Order.f k ts xs) (fun r => r.length = xs.length) := by
 unfold spec_l19Order.f
 have main : ∀ d i : Nat, i + d = xs.length → ∀ out : List Int, out.length = i → Has (fun k => spec_l19Order.l0 k ts xs out i) (fun r => r.length = xs.length) := by
  intro d
  induction d with
  | zero =>
   intro i hi out ho
   exact Has.step (fun k => spec_l19Order.l0.eq_2 ..) (Has.neg (by omega) (Has.now (by omega)))
  | succ d ih =>
   intro i hi out ho
   have w1 : wrap64 ((i : Int) + 1) = ((i + 1 : Nat) : Int) := by rw [w64 (by omega) (by omega)]; rfl
   have inner : ∀ e w : Nat, w + e = ts.length → ∀ o : List Int, o.length = i + 1 → Has (fun k => spec_l19Order.l1 k ts xs o i w) (fun r => r.length = xs.length) := by
    intro e
    induction e with
    | zero =>
     intro w hw o ho
     refine Has.step (fun k => spec_l19Order.l1.eq_2 ..) (Has.neg (by omega) ?_)
     rw [w1]
     exact ih (i + 1) (by omega) o ho
    | succ e ie =>
     intro w hw o ho
     have own : spec_l1Own.f o = some o := by
      unfold spec_l1Own.f
      show (if (0 + o.length < 17592186044416) then some ([] ++ o) else none) = _
      rw [if_pos (by omega), List.nil_append]
     refine Has.step (fun k => spec_l19Order.l1.eq_2 ..) (Has.pos (by omega) (Has.const own (Has.pos (by omega) (Has.pos (by omega) (Has.val (Has.bind (fitsAny ts ht xs _ (by rw [List.length_set]; omega) hx) fun b _ => ?_))))))
     rw [w1, show wrap64 ((w : Int) + 1) = ((w + 1 : Nat) : Int) from by rw [w64 (by omega) (by omega)]; rfl]
     exact Has.ite (fun _ => ih (i + 1) (by omega) _ (by rw [List.length_set]; exact ho)) (fun _ => ie (w + 1) (by omega) o ho)
   exact Has.step (fun k => spec_l19Order.l0.eq_2 ..) (Has.pos (by omega) (Has.pos (by omega) (inner ts.length 0 (by omega) _ (by rw [List.length_append, List.length_singleton]; omega))))
 exact main xs.length 0 (by omega) [] rfl
def FarO (m a : Int) (r : List Int × Int × Int) : Prop := r.1.length ≤ 31 ∧ a ≤ r.2.1 ∧ r.2.1 ≤ a + m
theorem FarO.up {m m' a a' : Int} {r : List Int × Int × Int} (h : FarO m a r) (h1 : a' ≤ a) (h2 : a + m ≤ a' + m') : FarO m' a' r := ⟨h.1, by have := h.2; omega, by have := h.2; omega⟩
theorem draw_loading_at {c : List Int} (hc : Bytes c) (ts : List S54) : ∀ (n : Nat) (lo : List Int) (a s : Int), lo.length ≤ 30 → 0 ≤ a → a ≤ 1000000000000000 - 2 * n →
  Has (fun k => spec_l1Cur_loading.l0 k ts lo n c a s) (FarO (2 * n + 8) a) := by
 have j : ∀ (lo : List Int) (a s : Int), lo.length ≤ 30 → 0 ≤ a → a ≤ 1000000000000000 → Has (fun k => spec_l1Cur_loading.j1 k ts lo c a s) (FarO 8 a) := by
  intro lo a s hl h0 h1
  refine Has.step (fun k => spec_l1Cur_loading.j1.eq_2 ..) (Has.bind (pick hc s 24 h0 (by omega)) fun r ⟨r0, r1, _, r3, r4⟩ => ?_)
  refine Has.ite (fun _ => Has.pos (by omega) (Has.now ⟨by simp only [List.length_append, List.length_singleton]; omega, by simp only; omega, by simp only; omega⟩)) (fun _ => Has.ite (fun _ => Has.ite (fun hp => ?_) (fun _ => ?_)) (fun _ => ?_))
  ·refine Has.bind (pick hc r.2.2 _ (by omega) (by omega)) fun i ⟨i0, i1, i2, i3, i4⟩ => ?_
   have i5 : i.1 < (lo.length : Int) := by
    rcases Int.lt_or_le 1 (lo.length : Int) with h | h
    ·exact i1 h
    ·have := i2 h
     omega
   exact Has.bind (among hc i.2.2 _ (List.cons_ne_nil _ _) (by omega) (by omega)) fun q ⟨_, q1, q2⟩ => Has.pos i0 (Has.pos i5 (Has.now ⟨by simp only [List.length_set]; omega, by simp only; omega, by simp only; omega⟩))
  ·exact Has.now ⟨by simp only; omega, by simp only; omega, by simp only; omega⟩
  ·exact Has.now ⟨by simp only; omega, by simp only; omega, by simp only; omega⟩
 intro n
 induction n with
 | zero =>
  intro lo a s hl h0 h1
  exact Has.step (fun k => spec_l1Cur_loading.l0.eq_2 ..) (Has.neg (by omega) (Has.mono (j lo a s (by omega) h0 (by omega)) fun b hb => hb.up (by omega) (by omega)))
 | succ n ih =>
  intro lo a s hl h0 h1
  refine Has.step (fun k => spec_l1Cur_loading.l0.eq_2 ..) (Has.pos (by omega) (Has.ite (fun hp => ?_) (fun _ => Has.mono (j lo a s (by omega) h0 (by omega)) fun b hb => hb.up (by omega) (by omega))))
  rw [show wrap64 (((n + 1 : Nat) : Int) - 1) = (n : Int) from by rw [w64 (by omega) (by omega)]; omega]
  refine Has.bind (pick hc s _ h0 (by omega)) fun i ⟨i0, i1, i2, i3, i4⟩ => ?_
  have i5 : i.1 < (lo.length : Int) := by
   rcases Int.lt_or_le 1 (lo.length : Int) with h | h
   ·exact i1 h
   ·have := i2 h
    omega
  exact Has.pos i0 (Has.pos i5 (Has.mono (ih _ i.2.1 i.2.2 (by rw [List.length_set]; exact hl) (by omega) (by omega)) fun b hb => hb.up (by omega) (by omega)))
theorem draw_loading {c : List Int} (hc : Bytes c) {a : Int} (s : Int) (ts : List S54) (ht : ts.length ≤ 30) (xs : List S64) (hx : xs.length ≤ 30) (h0 : 0 ≤ a) (h1 : a ≤ 100000000000000) : Has (fun k => spec_l1Cur_loading.f k c a s ts xs) (FarO 50 a) := by
 unfold spec_l1Cur_loading.f
 refine Has.bind (orderAny ts (by omega) xs (by omega)) fun lo hlo => Has.bind (pick hc s 3 h0 (by omega)) fun r ⟨r0, r1, _, r3, r4⟩ => ?_
 have r5 := r1 (by omega)
 rw [show r.1 = ((r.1.toNat : Nat) : Int) by omega]
 exact Has.mono (draw_loading_at hc ts r.1.toNat lo r.2.1 r.2.2 (by omega) (by omega) (by omega)) fun b hb => hb.up (by omega) (by omega)
theorem draw_loadings {c : List Int} (hc : Bytes c) : Has (fun k => spec_DrawIsValidLoading.f k c) (fun r => r.1.length ≤ 30 ∧ r.2.1.length ≤ 30 ∧ r.2.2.length ≤ 31) := by
 unfold spec_DrawIsValidLoading.f
 exact Has.bind (draw_train hc 0 (by omega) (by omega)) fun t ⟨t1, t2, t3⟩ => Has.bind (draw_conts hc t.2.2 (by omega) (by omega)) fun x ⟨x1, x2, x3⟩ => Has.bind (draw_loading hc x.2.2 t.1 t1 x.1 x1 (by omega) (by omega)) fun o ⟨o1, _, _⟩ => Has.now ⟨t1, x1, o1⟩
theorem rd_app_lt (xs : List Int) (v : Int) (j : Nat) (h : j < xs.length) : rd (xs ++ [v]) j = rd xs j := by
 unfold rd
 rw [Int.toNat_natCast, List.getD_eq_getElem?_getD, List.getElem?_append_left h, ← List.getD_eq_getElem?_getD]
theorem rd_app_at (xs : List Int) (v : Int) : rd (xs ++ [v]) xs.length = v := by
 unfold rd
 rw [Int.toNat_natCast]
 exact getD_of (by simp)
theorem on_app (n : Nat) (xs : List Int) (v : Int) (h : On n xs) (h0 : -1 ≤ v) (h1 : v < (n : Int)) : On n (xs ++ [v]) := by
 intro j hj
 rw [List.length_append] at hj
 rcases Nat.lt_or_ge j xs.length with q | q
 ·rw [rd_app_lt xs v j q]
  exact h j q
 ·obtain rfl : j = xs.length := by simp at hj; omega
  rw [rd_app_at]
  exact ⟨h0, h1⟩
theorem sL_app (xs : List S64) (lo : List Int) (v w : Int) (n : Nat) (hn : n ≤ lo.length) : sL xs (lo ++ [v]) w n = sL xs lo w n := by
 induction n with
 | zero => rfl
 | succ n ih =>
  unfold sL
  rw [rd_app_lt lo v n (by omega), ih (by omega)]
theorem sW_app (xs : List S64) (lo : List Int) (v w : Int) (n : Nat) (hn : n ≤ lo.length) : sW xs (lo ++ [v]) w n = sW xs lo w n := by
 induction n with
 | zero => rfl
 | succ n ih =>
  unfold sW
  rw [rd_app_lt lo v n (by omega), ih (by omega)]
theorem sL_sum (xs : List S64) (lo : List Int) (v w : Int) : sL xs (lo ++ [v]) w (lo ++ [v]).length = if v = w then sL xs lo w lo.length + (rd_T64 xs lo.length).f1 else sL xs lo w lo.length := by
 rw [show (lo ++ [v]).length = lo.length + 1 by simp, show sL xs (lo ++ [v]) w (lo.length + 1) = if rd (lo ++ [v]) (lo.length : Nat) = w then sL xs (lo ++ [v]) w lo.length + (rd_T64 xs lo.length).f1 else sL xs (lo ++ [v]) w lo.length from rfl, rd_app_at, sL_app _ _ _ _ _ (Nat.le_refl _)]
theorem sW_sum (xs : List S64) (lo : List Int) (v w : Int) : sW xs (lo ++ [v]) w (lo ++ [v]).length = if v = w then sW xs lo w lo.length + (rd_T64 xs lo.length).f2 else sW xs lo w lo.length := by
 rw [show (lo ++ [v]).length = lo.length + 1 by simp, show sW xs (lo ++ [v]) w (lo.length + 1) = if rd (lo ++ [v]) (lo.length : Nat) = w then sW xs (lo ++ [v]) w lo.length + (rd_T64 xs lo.length).f2 else sW xs (lo ++ [v]) w lo.length from rfl, rd_app_at, sW_app _ _ _ _ _ (Nat.le_refl _)]
theorem fit_minus (ts : List S54) (xs : List S64) (lo : List Int) (h : Fit ts xs lo) : Fit ts xs (lo ++ [-1]) := by
 intro j hj
 have := h j hj
 rw [sL_sum, sW_sum, if_neg (by omega), if_neg (by omega)]
 exact this
theorem fit_back (ts : List S54) (xs : List S64) (hs : Small xs) (lo : List Int) (v : Int) (hl : lo.length < xs.length) (h : Fit ts xs (lo ++ [v])) : Fit ts xs lo := by
 intro j hj
 have := h j hj
 rw [sL_sum, sW_sum] at this
 have b := hs.2 lo.length hl
 by_cases c : v = (j : Int)
 ·rw [if_pos c, if_pos c] at this
  omega
 ·rw [if_neg c, if_neg c] at this
  exact this
theorem cntL_app (lo : List Int) (v : Int) : impl_MostContainers.cnt (lo ++ [v]) = impl_MostContainers.cnt lo + (if 0 ≤ v then 1 else 0) := by
 unfold impl_MostContainers.cnt
 rw [List.filter_append, List.length_append]
 by_cases h : 0 ≤ v <;> simp [h]
theorem cntL_le (lo : List Int) : impl_MostContainers.cnt lo ≤ lo.length := List.length_filter_le _ _
theorem l1Most_eq (a b : Int) : spec_l1Most.f a b = some (max a b) := by
 unfold spec_l1Most.f
 by_cases c : a > b
 ·rw [if_pos c, Int.max_eq_left (by omega)]
 ·rw [if_neg c, Int.max_eq_right (by omega)]
theorem mostAt (ts : List S54) (ht : ts.length ≤ 1048577) (xs : List S64) (hs : Small xs) (p P : List Int) (hP : P = p.map fun x => wrap64 (x - 1)) (hl : P.length ≤ xs.length) (ho : On ts.length P) (m : Int) :
  (Fit ts xs P → Ev (fun k => impl_MostContainers_1.f k ts xs m p) (max m (impl_MostContainers.cnt P : Int))) ∧ (¬ Fit ts xs P → Ev (fun k => impl_MostContainers_1.f k ts xs m p) m) := by
 obtain ⟨b, b1, b2⟩ := isLoaded ts ht xs hs P hl ho
 unfold impl_MostContainers_1.f
 rw [← hP]
 by_cases c : m < (impl_MostContainers.cnt P : Int)
 ·refine ⟨fun h => Ev.pos c (Ev.bind b1 (Ev.eq (Ev.now _) ?_)), fun h => Ev.pos c (Ev.bind b1 (Ev.eq (Ev.now _) ?_))⟩
  ·rw [if_pos (b2.2 h), Int.max_eq_right (by omega)]
  ·rw [if_neg (fun e => h (b2.1 e))]
 ·refine ⟨fun h => Ev.neg c (Ev.eq (Ev.now _) ?_), fun h => Ev.neg c (Ev.now _)⟩
  rw [Int.max_eq_left (by omega)]
theorem mapSnoc (p : List Int) (j : Nat) (hj : j ≤ 1048577) : (p ++ [(j : Int)]).map (fun x => wrap64 (x - 1)) = p.map (fun x => wrap64 (x - 1)) ++ [(j : Int) - 1] := by
 rw [List.map_append, List.map_cons, List.map_nil, w64 (by omega) (by omega)]
theorem fit_front (ts : List S54) (xs : List S64) (hs : Small xs) : ∀ (q P : List Int), (P ++ q).length ≤ xs.length → Fit ts xs (P ++ q) → Fit ts xs P := by
 intro q
 induction q with
 | nil => exact fun P _ h => by simpa using h
 | cons v q ih =>
  intro P hl h
  have e : P ++ v :: q = P ++ [v] ++ q := by simp
  rw [e] at hl h
  exact fit_back ts xs hs P v (by simp at hl; omega) (ih (P ++ [v]) hl h)
theorem mostBoth (ts : List S54) (ht : ts.length ≤ 1048576) (xs : List S64) (hs : Small xs) : ∀ (d : Nat) (p P : List Int), P.length + d = xs.length → P = (p.map fun x => wrap64 (x - 1)) → On ts.length P →
  (Fit ts xs P → ∃ B : Int, (impl_MostContainers.cnt P : Int) ≤ B ∧ Ev (fun k => spec_l19Most.f k ts xs P (impl_MostContainers.cnt P)) B ∧ (∀ m : Int, Ev (fun k => impl_choices_1.f k ts xs (ts.length + 1) d m p) (max m B)) ∧ ∀ q : List Int, q.length = d → On ts.length (P ++ q) → Fit ts xs (P ++ q) → (impl_MostContainers.cnt (P ++ q) : Int) ≤ B) ∧
  (¬ Fit ts xs P → ∀ m : Int, Ev (fun k => impl_choices_1.f k ts xs (ts.length + 1) d m p) m) := by
 intro d
 have l12 : xs.length ≤ 12 := hs.1
 induction d with
 | zero =>
  intro p P hl hP ho
  refine ⟨fun h => ⟨_, Int.le_refl _, ?_, fun m => (mostAt ts (by omega) xs hs p P hP (by omega) ho m).1 h, fun q hq _ _ => by rw [List.eq_nil_of_length_eq_zero hq, List.append_nil]; exact Int.le_refl _⟩, fun h m => (mostAt ts (by omega) xs hs p P hP (by omega) ho m).2 h⟩
  exact Ev.step (fun k => spec_l19Most.f.eq_2 ..) (Ev.pos (by omega) (Ev.now _))
 | succ d ih =>
  intro p P hl hP ho
  have cl := cntL_le P
  have st : ∀ j : Nat, j ≤ ts.length → (P ++ [(j : Int) - 1]).length + d = xs.length ∧ P ++ [(j : Int) - 1] = ((p ++ [(j : Int)]).map fun x => wrap64 (x - 1)) ∧ On ts.length (P ++ [(j : Int) - 1]) := fun j hj =>
   ⟨by simp; omega, by rw [mapSnoc p j (by omega), ← hP], on_app _ _ _ ho (by omega) (by omega)⟩
  have own : spec_l1Own.f P = some P := by
   unfold spec_l1Own.f
   show (if (0 + P.length < 17592186044416) then some ([] ++ P) else none) = _
   rw [if_pos (by omega), List.nil_append]
  constructor
  ·intro h
   obtain ⟨B0, b0, b1, b2, b3⟩ := (ih (p ++ [((0 : Nat) : Int)]) _ (st 0 (by omega)).1 (st 0 (by omega)).2.1 (st 0 (by omega)).2.2).1 (fit_minus ts xs P h)
   have e0 : ((0 : Nat) : Int) - 1 = -1 := rfl
   rw [e0] at b0 b1
   have c0 : impl_MostContainers.cnt (P ++ [-1]) = impl_MostContainers.cnt P := by rw [cntL_app, if_neg (by omega)]; rfl
   rw [c0] at b0 b1
   have main : ∀ e t : Nat, t + e = ts.length → ∀ best : Int, (impl_MostContainers.cnt P : Int) ≤ best → ∃ B : Int, best ≤ B ∧ Ev (fun k => spec_l19Most.l0 k ts xs P (impl_MostContainers.cnt P) best t) B ∧
     (∀ m : Int, Ev (fun k => impl_choices_1.go (fun j m => impl_choices_1.f k ts xs (ts.length + 1) d m (p ++ [(j : Int)])) e (t + 1) (max m best)) (max m B)) ∧
     ∀ (v : Nat) (q : List Int), t ≤ v → v < ts.length → q.length = d → On ts.length (P ++ [(v : Int)] ++ q) → Fit ts xs (P ++ [(v : Int)] ++ q) → (impl_MostContainers.cnt (P ++ [(v : Int)] ++ q) : Int) ≤ B := by
    intro e
    induction e with
    | zero =>
     intro t hte best hb
     exact ⟨best, Int.le_refl _, Ev.step (fun k => spec_l19Most.l0.eq_2 ..) (Ev.neg (by omega) (Ev.now _)), fun m => Ev.now _, fun v q h1 h2 => absurd h2 (by omega)⟩
    | succ e ihe =>
     intro t hte best hb
     have lt : (t : Int) < ts.length := by omega
     have hte2 : t + 1 + e = ts.length := by omega
     have et : ((t + 1 : Nat) : Int) - 1 = (t : Int) := by omega
     have s := st (t + 1) (by omega)
     rw [et] at s
     obtain ⟨b, q1, q2⟩ := fits ts (by omega) xs hs (P ++ [(t : Int)]) (by have := s.1; omega)
     have cn : impl_MostContainers.cnt (P ++ [(t : Int)]) = impl_MostContainers.cnt P + 1 := by rw [cntL_app, if_pos (by omega)]
     have lq : (P.length : Int) < 17592186044416 := by omega
     have lq' : P.length < 17592186044416 := by omega
     have cb : (impl_MostContainers.cnt P : Int) + 1 ≤ 13 := by omega
     have cb0 : -9223372036854775808 ≤ (impl_MostContainers.cnt P : Int) + 1 := by omega
     have ht1 : -9223372036854775808 ≤ (t : Int) + 1 := by omega
     have ht2 : (t : Int) + 1 ≤ 9223372036854775807 := by omega
     have w1 : wrap64 ((t : Int) + 1) = ((t + 1 : Nat) : Int) := by rw [w64 ht1 ht2]; rfl
     have w2 : wrap64 ((impl_MostContainers.cnt P : Int) + 1) = ((impl_MostContainers.cnt P + 1 : Nat) : Int) := by rw [w64 cb0 (Int.le_trans cb (by decide))]; rfl
     have J := ih (p ++ [((t + 1 : Nat) : Int)]) (P ++ [(t : Int)]) s.1 s.2.1 s.2.2
     by_cases f : Fit ts xs (P ++ [(t : Int)])
     ·obtain ⟨B1, g0, g1, g2, g3⟩ := J.1 f
      rw [cn] at g0 g1
      obtain ⟨B, r0, r1, r2, r3⟩ := ihe (t + 1) hte2 (max best B1) (Int.le_trans hb (Int.le_max_left _ _))
      rw [← w1] at r1
      rw [← w2] at g1
      refine ⟨B, Int.le_trans (Int.le_max_left _ _) r0, ?_, fun m => ?_, fun v q h1 h2 hq ho' hf' => ?_⟩
      ·exact Ev.step (fun k => spec_l19Most.l0.eq_2 ..) (Ev.pos lt (Ev.const own (Ev.pos lq' (Ev.some (Ev.bind q1 (Ev.pos (q2.2 f) (Ev.bind g1 (Ev.const (l1Most_eq _ _) r1))))))))
      ·have := r2 m
       exact Ev.bind (g2 (max m best)) (by rw [Int.max_assoc]; exact this)
      ·rcases Nat.lt_or_ge t v with c | c
       ·exact r3 v q c h2 hq ho' hf'
       ·obtain rfl : v = t := Nat.le_antisymm c h1
        exact Int.le_trans (g3 q hq ho' hf') (Int.le_trans (Int.le_max_right _ _) r0)
     ·obtain ⟨B, r0, r1, r2, r3⟩ := ihe (t + 1) hte2 best hb
      rw [← w1] at r1
      refine ⟨B, r0, Ev.step (fun k => spec_l19Most.l0.eq_2 ..) (Ev.pos lt (Ev.const own (Ev.pos lq' (Ev.some (Ev.bind q1 (Ev.neg (fun e => f (q2.1 e)) r1)))))), fun m => Ev.bind (J.2 f (max m best)) (r2 m), fun v q h1 h2 hq ho' hf' => ?_⟩
      rcases Nat.lt_or_ge t v with c | c
      ·exact r3 v q c h2 hq ho' hf'
      ·obtain rfl : v = t := Nat.le_antisymm c h1
       exact absurd (fit_front ts xs hs q (P ++ [(v : Int)]) (by rw [List.length_append, hq]; exact Nat.le_of_eq s.1) hf') f
   obtain ⟨B, r0, r1, r2, r3⟩ := main ts.length 0 (by omega) B0 b0
   refine ⟨B, by omega, Ev.step (fun k => spec_l19Most.f.eq_2 ..) (Ev.neg (by omega) (Ev.const own (Ev.pos (by omega) (Ev.bind b1 r1)))), fun m => Ev.bind (b2 m) (r2 m), fun q hq ho' hf' => ?_⟩
   obtain ⟨v, q', rfl⟩ := List.exists_cons_of_length_eq_add_one hq
   have hq' : q'.length = d := by simpa using hq
   have e : P ++ v :: q' = P ++ [v] ++ q' := by simp
   rw [e] at ho' hf' ⊢
   have hv := ho' P.length (by simp)
   rw [show rd (P ++ [v] ++ q') (P.length : Nat) = v from by
    unfold rd
    rw [Int.toNat_natCast, List.append_assoc]
    exact getD_of (by simp)] at hv
   by_cases c : v < 0
   ·obtain rfl : v = -1 := by omega
    exact Int.le_trans (b3 q' hq' ho' hf') r0
   ·obtain ⟨u, rfl⟩ := Int.eq_ofNat_of_zero_le (show 0 ≤ v by omega)
    exact r3 u q' (Nat.zero_le _) (by omega) hq' ho' hf'
  ·intro h m
   have main : ∀ e t : Nat, t + e = ts.length + 1 → Ev (fun k => impl_choices_1.go (fun j m => impl_choices_1.f k ts xs (ts.length + 1) d m (p ++ [(j : Int)])) e t m) m := by
    intro e
    induction e with
    | zero => exact fun t hte => Ev.now _
    | succ e ihe =>
     intro t hte
     have s := st t (by omega)
     exact Ev.bind ((ih (p ++ [(t : Int)]) (P ++ [(t : Int) - 1]) s.1 s.2.1 s.2.2).2 (fun f => h (fit_back ts xs hs P _ (by omega) f)) m) (ihe (t + 1) (by omega))
   exact main (ts.length + 1) 0 (by omega)
theorem mostContainers (ts : List S54) (ht : ts.length ≤ 1048576) (xs : List S64) (hx : xs.length ≤ 1048577) : ∃ r : Int × Bool, Ev (fun k => spec_MostContainers.f k ts xs) r ∧ Ev (fun k => impl_MostContainers.f k ts xs) r ∧ (r.2 = true → ∀ q : List Int, q.length = xs.length → On ts.length q → Fit ts xs q → (impl_MostContainers.cnt q : Int) ≤ r.1) := by
 unfold spec_MostContainers.f impl_MostContainers.f
 obtain ⟨p, p1, p2, p3⟩ := train ts (by omega)
 obtain ⟨q, q1, q2, q3⟩ := conts xs hx
 by_cases cp : p = true
 ·by_cases cq : q = true
  ·by_cases c7 : (xs.length : Int) > 7
   ·exact ⟨(0, false), Ev.bind p1 (Ev.pos cp (Ev.bind q1 (Ev.pos cq (Ev.pos c7 (Ev.now _))))), Ev.bind p2 (Ev.pos cp (Ev.bind q2 (Ev.pos cq (Ev.pos c7 (Ev.now _))))), fun h => by cases h⟩
   ·by_cases c3 : (ts.length : Int) > 3
    ·exact ⟨(0, false), Ev.bind p1 (Ev.pos cp (Ev.bind q1 (Ev.pos cq (Ev.neg c7 (Ev.pos c3 (Ev.now _)))))), Ev.bind p2 (Ev.pos cp (Ev.bind q2 (Ev.pos cq (Ev.neg c7 (Ev.pos c3 (Ev.now _)))))), fun h => by cases h⟩
    ·have ft : Fit ts xs [] := by
      intro j hj
      obtain ⟨⟨h1, _⟩, ⟨h2, _⟩⟩ := (p3.1 cp).2 j hj
      exact ⟨Int.le_trans (show (0 : Int) ≤ 1 by decide) h1, Int.le_trans (show (0 : Int) ≤ 1 by decide) h2⟩
     obtain ⟨B, b0, b1, b2, bq⟩ := (mostBoth ts ht xs (small xs (q3.1 cq)) xs.length [] [] (by simp) rfl (fun j hj => absurd hj (by simp))).1 ft
     have b3 := b2 0
     rw [Int.max_eq_right (by exact Int.le_trans (Int.natCast_nonneg _) b0)] at b3
     refine ⟨(B, true), Ev.bind p1 (Ev.pos cp (Ev.bind q1 (Ev.pos cq (Ev.neg c7 (Ev.neg c3 (Ev.bind b1 (Ev.now _))))))), Ev.bind p2 (Ev.pos cp (Ev.bind q2 (Ev.pos cq (Ev.neg c7 (Ev.neg c3 (Ev.bind b3 (Ev.now _))))))), fun _ q hq ho hf => ?_⟩
     have := bq q hq (by simpa using ho) (by simpa using hf)
     simpa using this
  ·exact ⟨(0, false), Ev.bind p1 (Ev.pos cp (Ev.bind q1 (Ev.neg cq (Ev.now _)))), Ev.bind p2 (Ev.pos cp (Ev.bind q2 (Ev.neg cq (Ev.now _)))), fun h => by cases h⟩
 ·exact ⟨(0, false), Ev.bind p1 (Ev.neg cp (Ev.now _)), Ev.bind p2 (Ev.neg cp (Ev.now _)), fun h => by cases h⟩
theorem orderRest (ts : List S54) (ht : ts.length ≤ 1048577) (xs : List S64) (out : List Int) (v n i : Int) (hv : ¬ v < 0) (r : List Int × Bool) (hr : Ev (fun k => impl_LoadInOrder.l1 k ts xs out v n i ts.length ts.length) r) : ∀ d w : Nat, w + d = ts.length → Ev (fun k => impl_LoadInOrder.l1 k ts xs out v n i ts.length w) r := by
 intro d
 induction d with
 | zero =>
  intro w hw
  obtain rfl : w = ts.length := by omega
  exact hr
 | succ d ih =>
  intro w hw
  have w1 : wrap64 ((w : Int) + 1) = ((w + 1 : Nat) : Int) := by rw [w64 (by omega) (by omega)]; rfl
  have := ih (w + 1) (by omega)
  rw [← w1] at this
  exact Ev.step (fun k => impl_LoadInOrder.l1.eq_2 ..) (Ev.pos (by omega) (Ev.neg hv this))
theorem orderOne (ts : List S54) (ht : ts.length ≤ 1048577) (xs : List S64) (hs : Small xs) (out : List Int) (i : Nat) (hi : i = out.length) (hlt : i < xs.length) (ho : On ts.length out) : ∀ d w : Nat, w + d = ts.length → ∃ v : Int, -1 ≤ v ∧ v < (ts.length : Int) ∧ (Fit ts xs out → Fit ts xs (out ++ [v])) ∧
  (∀ r, Ev (fun k => spec_l19Order.l0 k ts xs (out ++ [v]) ((i + 1 : Nat) : Int)) r → Ev (fun k => spec_l19Order.l1 k ts xs (out ++ [-1]) i w) r) ∧
  (∀ r, Ev (fun k => impl_LoadInOrder.l1 k ts xs out v xs.length i ts.length ts.length) r → Ev (fun k => impl_LoadInOrder.l1 k ts xs out (-1) xs.length i ts.length w) r) := by
 have l12 : xs.length ≤ 12 := hs.1
 have wi : wrap64 ((i : Int) + 1) = ((i + 1 : Nat) : Int) := by rw [w64 (by omega) (by omega)]; rfl
 intro d
 induction d with
 | zero =>
  intro w hw
  obtain rfl : w = ts.length := by omega
  refine ⟨-1, by omega, by omega, fit_minus ts xs out, fun r hr => ?_, fun r hr => hr⟩
  rw [← wi] at hr
  exact Ev.step (fun k => spec_l19Order.l1.eq_2 ..) (Ev.neg (by omega) hr)
 | succ d ih =>
  intro w hw
  have lw : (w : Int) < ts.length := by omega
  have i0 : (0 : Int) ≤ i := by omega
  have w1 : wrap64 ((w : Int) + 1) = ((w + 1 : Nat) : Int) := by rw [w64 (by omega) (by omega)]; rfl
  have hle : (out ++ [(w : Int)]).length ≤ xs.length := by simp; omega
  obtain ⟨b, b1, b2⟩ := fits ts ht xs hs (out ++ [(w : Int)]) hle
  obtain ⟨c, c1, c2⟩ := isLoaded ts ht xs hs (out ++ [(w : Int)]) hle (on_app _ _ _ ho (by omega) (by omega))
  have e : b = c := by
   have : b = true ↔ c = true := b2.trans c2.symm
   cases b <;> cases c <;> simp_all
  subst e
  have st : (out ++ [-1]).set ((i : Int)).toNat (w : Int) = out ++ [(w : Int)] := by
   rw [Int.toNat_natCast, hi, List.set_append, if_neg (by omega), Nat.sub_self]
   rfl
  have own : spec_l1Own.f (out ++ [-1]) = some (out ++ [-1]) := by
   unfold spec_l1Own.f
   show (if (0 + (out ++ [(-1 : Int)]).length < 17592186044416) then some ([] ++ (out ++ [(-1 : Int)])) else none) = _
   rw [if_pos (by simp; omega), List.nil_append]
  have cl : slices_Clone_int.f out = some out := by
   unfold slices_Clone_int.f
   show (if (0 + out.length < 17592186044416) then some ([] ++ out) else none) = _
   rw [if_pos (by omega), List.nil_append]
  have P : ∀ r, Ev _ r → Ev (fun k => spec_l19Order.l1 k ts xs (out ++ [-1]) i w) r := fun r hr => Ev.step (fun k => spec_l19Order.l1.eq_2 ..) (Ev.pos lw (Ev.const own (Ev.pos i0 (Ev.pos (by simp; omega) (Ev.some hr)))))
  have Q : ∀ r, Ev _ r → Ev (fun k => impl_LoadInOrder.l1 k ts xs out (-1) xs.length i ts.length w) r := fun r hr => Ev.step (fun k => impl_LoadInOrder.l1.eq_2 ..) (Ev.pos lw (Ev.pos (by omega) (Ev.const cl (Ev.pos (by omega) (Ev.bind c1 hr)))))
  rw [st] at P
  by_cases cb : b = true
  ·refine ⟨w, by omega, by omega, fun _ => b2.1 cb, fun r hr => ?_, fun r hr => ?_⟩
   ·rw [← wi] at hr
    exact P r (Ev.bind b1 (Ev.pos cb hr))
   ·have := orderRest ts ht xs out w xs.length i (by omega) r hr d (w + 1) (by omega)
    rw [← w1] at this
    exact Q r (Ev.pos cb this)
  ·obtain ⟨v, v1, v2, v0, v3, v4⟩ := ih (w + 1) (by omega)
   refine ⟨v, v1, v2, v0, fun r hr => ?_, fun r hr => ?_⟩
   ·have := v3 r hr
    rw [← w1] at this
    exact P r (Ev.bind b1 (Ev.neg cb this))
   ·have := v4 r hr
    rw [← w1] at this
    exact Q r (Ev.neg cb this)
theorem orderLoop (ts : List S54) (ht : ts.length ≤ 1048577) (xs : List S64) (hs : Small xs) : ∀ d i : Nat, i + d = xs.length → ∀ out : List Int, out.length = i → On ts.length out → Fit ts xs out → ∃ r : List Int, r.length = xs.length ∧ On ts.length r ∧ Fit ts xs r ∧
  Ev (fun k => spec_l19Order.l0 k ts xs out i) r ∧ Ev (fun k => impl_LoadInOrder.l0 k ts xs out xs.length i) (r, true) := by
 have l12 : xs.length ≤ 12 := hs.1
 intro d
 induction d with
 | zero =>
  intro i hi out hl ho hf
  exact ⟨out, by omega, ho, hf, Ev.step (fun k => spec_l19Order.l0.eq_2 ..) (Ev.neg (by omega) (Ev.now _)), Ev.step (fun k => impl_LoadInOrder.l0.eq_2 ..) (Ev.neg (by omega) (Ev.now _))⟩
 | succ d ih =>
  intro i hi out hl ho hf
  have li : (i : Int) < xs.length := by omega
  have wi : wrap64 ((i : Int) + 1) = ((i + 1 : Nat) : Int) := by rw [w64 (by omega) (by omega)]; rfl
  obtain ⟨v, v1, v2, v0, v3, v4⟩ := orderOne ts ht xs hs out i hl.symm (by omega) ho ts.length 0 (by omega)
  obtain ⟨r, r1, r2, r5, r3, r4⟩ := ih (i + 1) (by omega) (out ++ [v]) (by simp; omega) (on_app _ _ _ ho v1 v2) (v0 hf)
  refine ⟨r, r1, r2, r5, Ev.step (fun k => spec_l19Order.l0.eq_2 ..) (Ev.pos li (Ev.pos (by omega) (v3 r r3))), Ev.step (fun k => impl_LoadInOrder.l0.eq_2 ..) (Ev.pos li (v4 _ ?_))⟩
  rw [← wi] at r4
  exact Ev.step (fun k => impl_LoadInOrder.l1.eq_2 ..) (Ev.neg (by omega) (Ev.pos (by omega) r4))
theorem fit_nil (ts : List S54) (xs : List S64) (ht : Train ts) : Fit ts xs [] := by
 intro j hj
 obtain ⟨⟨h1, _⟩, ⟨h2, _⟩⟩ := ht.2 j hj
 exact ⟨Int.le_trans (show (0 : Int) ≤ 1 by decide) h1, Int.le_trans (show (0 : Int) ≤ 1 by decide) h2⟩
theorem loadFacts (ts : List S54) (ht : ts.length ≤ 1048577) (xs : List S64) (hx : xs.length ≤ 1048577) :
  (Train ts ∧ Conts xs ∧ ∃ r : List Int, r.length = xs.length ∧ On ts.length r ∧ Fit ts xs r ∧ Ev (fun k => spec_LoadInOrder.f k ts xs) (r, true) ∧ Ev (fun k => impl_LoadInOrder.f k ts xs) (r, true)) ∨
  (¬ (Train ts ∧ Conts xs) ∧ Ev (fun k => spec_LoadInOrder.f k ts xs) ([], false) ∧ Ev (fun k => impl_LoadInOrder.f k ts xs) ([], false)) := by
 unfold spec_LoadInOrder.f impl_LoadInOrder.f
 obtain ⟨p, p1, p2, p3⟩ := train ts ht
 obtain ⟨q, q1, q2, q3⟩ := conts xs hx
 have ij : ∀ z : Bool, z = true → Ev (fun k => impl_LoadInOrder.j0 k ts xs z) (([] : List Int), false) := fun z hz => Ev.step (fun k => impl_LoadInOrder.j0.eq_2 ..) (Ev.pos hz (Ev.now _))
 by_cases cp : p = true
 ·by_cases cq : q = true
  ·obtain ⟨r, r1, r2, r5, r3, r4⟩ := orderLoop ts ht xs (small xs (q3.1 cq)) xs.length 0 (by omega) [] rfl (fun j hj => absurd hj (by simp)) (fit_nil ts xs (p3.1 cp))
   refine .inl ⟨p3.1 cp, q3.1 cq, r, r1, r2, r5, ?_⟩
   subst cq
   exact ⟨Ev.bind p1 (Ev.pos cp (Ev.bind q1 (Ev.pos rfl (Ev.bind (by unfold spec_l19Order.f; exact r3) (Ev.now _))))), Ev.bind p2 (Ev.pos cp (Ev.bind q2 (Ev.step (fun k => impl_LoadInOrder.j0.eq_2 ..) (Ev.neg (by simp) r4))))⟩
  ·exact .inr ⟨fun h => cq (q3.2 h.2), Ev.bind p1 (Ev.pos cp (Ev.bind q1 (Ev.neg cq (Ev.now _)))), Ev.bind p2 (Ev.pos cp (Ev.bind q2 (ij _ (by cases q <;> simp_all))))⟩
 ·exact .inr ⟨fun h => cp (p3.2 h.1), Ev.bind p1 (Ev.neg cp (Ev.now _)), Ev.bind p2 (Ev.neg cp (ij _ rfl))⟩
theorem loadOrder (ts : List S54) (ht : ts.length ≤ 1048577) (xs : List S64) (hx : xs.length ≤ 1048577) : ∃ r : List Int × Bool, Ev (fun k => spec_LoadInOrder.f k ts xs) r ∧ Ev (fun k => impl_LoadInOrder.f k ts xs) r ∧ r.1.length ≤ 1048577 := by
 rcases loadFacts ts ht xs hx with ⟨_, _, r, r1, _, _, r3, r4⟩ | ⟨_, r3, r4⟩
 ·exact ⟨(r, true), r3, r4, by show r.length ≤ _; omega⟩
 ·exact ⟨([], false), r3, r4, by simp⟩
theorem eq_of_rd (g : Nat → Int) (n : Nat) (ys : List Int) (hy : ys.length = n) (h : ∀ j : Nat, j < n → rd ys j = g j) : ys = (List.range n).map g := by
 apply List.ext_getElem (by simpa using hy)
 intro j h1 h2
 have := h j (by omega)
 unfold rd at this
 rw [Int.toNat_natCast, getD_of (List.getElem?_eq_getElem h1)] at this
 rw [this]
 simp
theorem range_succ_map (g : Nat → Int) (i : Nat) : (List.range (i + 1)).map g = (List.range i).map g ++ [g i] := by
 rw [List.range_succ, List.map_append]
 rfl
theorem freeFacts (ts : List S54) (ht : ts.length ≤ 1048577) (xs : List S64) (hx : xs.length ≤ 1048577) (lo : List Int) (hl : lo.length ≤ 1048577) :
  (Load ts xs lo ∧ Ev (fun k => spec_FreeLengths.f k ts xs lo) ((List.range ts.length).map fun j : Nat => wrap64 ((rd_T54 ts j).f0 - sL xs lo j lo.length), true) ∧ Ev (fun k => impl_FreeLengths.f k ts xs lo) ((List.range ts.length).map fun j : Nat => wrap64 ((rd_T54 ts j).f0 - sL xs lo j lo.length), true)) ∨
  (¬ Load ts xs lo ∧ Ev (fun k => spec_FreeLengths.f k ts xs lo) ([], false) ∧ Ev (fun k => impl_FreeLengths.f k ts xs lo) ([], false)) := by
 obtain ⟨b, h1, h2, h3⟩ := good ts ht xs hx lo hl
 unfold spec_FreeLengths.f impl_FreeLengths.f
 by_cases c : b = true
 ·obtain ⟨_, hc, hle, ho, _⟩ := h3.1 c
  have hs := small xs hc
  have hle : lo.length ≤ xs.length := by omega
  obtain ⟨p, q, hp, hq, hr, hu⟩ := usage ts ht xs hs lo hle ho
  let g : Nat → Int := fun j => wrap64 ((rd_T54 ts j).f0 - sL xs lo j lo.length)
  have S : ∀ d i : Nat, i + d = ts.length → Ev (fun k => spec_FreeLengths.l0 k ts xs lo ((List.range i).map g) i) ((List.range ts.length).map g, true) := by
   intro d
   induction d with
   | zero =>
    intro i hi
    obtain rfl : i = ts.length := by omega
    exact Ev.step (fun k => spec_FreeLengths.l0.eq_2 ..) (Ev.neg (by omega) (Ev.now _))
   | succ d ih =>
    intro i hi
    have li : (i : Int) < ts.length := by omega
    have i0 : (0 : Int) ≤ i := by omega
    have w1 : wrap64 ((i : Int) + 1) = ((i + 1 : Nat) : Int) := by rw [w64 (by omega) (by omega)]; rfl
    have := ih (i + 1) (by omega)
    rw [range_succ_map, ← w1] at this
    exact Ev.step (fun k => spec_FreeLengths.l0.eq_2 ..) (Ev.pos li (Ev.bind (sums xs hs lo hle i) (Ev.pos i0 (Ev.pos (by simp; omega) this))))
  have I : ∀ d i : Nat, i + d = ts.length → ∀ ys : List Int, ys.length = ts.length → (∀ j : Nat, j < i → rd ys j = g j) → (∀ j : Nat, i ≤ j → j < ts.length → rd ys j = rd p j) → Ev (fun k => impl_FreeLengths.l0 k ys ts ts.length i) ((List.range ts.length).map g, true) := by
   intro d
   induction d with
   | zero =>
    intro i hi ys hy y1 _
    refine Ev.step (fun k => impl_FreeLengths.l0.eq_2 ..) (Ev.neg (by omega) (Ev.eq (Ev.now _) ?_))
    rw [eq_of_rd g ts.length ys hy (fun j hj => y1 j (by omega))]
   | succ d ih =>
    intro i hi ys hy y1 y2
    have li : (i : Int) < ts.length := by omega
    have ly : (i : Int) < ys.length := by omega
    have i0 : (0 : Int) ≤ i := by omega
    have w1 : wrap64 ((i : Int) + 1) = ((i + 1 : Nat) : Int) := by rw [w64 (by omega) (by omega)]; rfl
    have e : wrap64 ((rd_T54 ts i).f0 - rd ys i) = g i := by
     rw [y2 i (Nat.le_refl _) (by omega), (hr i (by omega)).1]
    have := ih (i + 1) (by omega) (ys.set (i : Int).toNat (g i)) (by simpa using hy) (fun j hj => by
     rcases Nat.lt_or_ge j i with z | z
     ·rw [rdset_ne _ _ _ _ i0 (by omega) (by omega)]
      exact y1 j z
     ·obtain rfl : j = i := by omega
      exact rdset_self _ _ _ i0 ly) (fun j j1 j2 => by
     rw [rdset_ne _ _ _ _ i0 (by omega) (by omega)]
     exact y2 j (by omega) j2)
    rw [← w1, ← e] at this
    exact Ev.step (fun k => impl_FreeLengths.l0.eq_2 ..) (Ev.pos li (Ev.pos i0 (Ev.pos li (Ev.pos ly this))))
  exact .inl ⟨h3.1 c, Ev.some (Ev.bind h1 (Ev.pos c (S ts.length 0 (by omega)))), Ev.bind h2 (Ev.pos c (Ev.bind hu (I ts.length 0 (by omega) p hp (fun j hj => by omega) (fun j _ _ => rfl))))⟩
 ·exact .inr ⟨fun h => c (h3.2 h), Ev.some (Ev.bind h1 (Ev.neg c (Ev.now _))), Ev.bind h2 (Ev.neg c (Ev.now _))⟩
theorem freeLengths (ts : List S54) (ht : ts.length ≤ 1048577) (xs : List S64) (hx : xs.length ≤ 1048577) (lo : List Int) (hl : lo.length ≤ 1048577) : ∃ r : List Int × Bool, Ev (fun k => spec_FreeLengths.f k ts xs lo) r ∧ Ev (fun k => impl_FreeLengths.f k ts xs lo) r ∧ r.1.length ≤ 1048577 := by
 rcases freeFacts ts ht xs hx lo hl with ⟨_, a, b⟩ | ⟨_, a, b⟩
 ·exact ⟨_, a, b, by simpa using ht⟩
 ·exact ⟨_, a, b, by simp⟩
def sumN (g : Nat → Int) : Nat → Int
 | 0 => 0
 | n + 1 => wrap64 (sumN g n + g n)
theorem sumOf_eq (g : Nat → Int) (ys : List Int) (hl : ys.length ≤ 1048577) (hy : ∀ j : Nat, j < ys.length → rd ys j = g j) : Ev (fun k => impl_sumOf.f k ys) (sumN g ys.length) := by
 unfold impl_sumOf.f
 have main : ∀ d i : Nat, i + d = ys.length → Ev (fun k => impl_sumOf.l0 k (sumN g i) ys ys.length i) (sumN g ys.length) := by
  intro d
  induction d with
  | zero =>
   intro i hi
   obtain rfl : i = ys.length := by omega
   exact Ev.step (fun k => impl_sumOf.l0.eq_2 ..) (Ev.neg (by omega) (Ev.now _))
  | succ d ih =>
   intro i hi
   have li : (i : Int) < ys.length := by omega
   have i0 : (0 : Int) ≤ i := by omega
   have w1 : wrap64 ((i : Int) + 1) = ((i + 1 : Nat) : Int) := by rw [w64 (by omega) (by omega)]; rfl
   have := ih (i + 1) (by omega)
   rw [← w1, show sumN g (i + 1) = wrap64 (sumN g i + rd ys i) from by rw [hy i (by omega)]; rfl] at this
   exact Ev.step (fun k => impl_sumOf.l0.eq_2 ..) (Ev.pos li (Ev.pos i0 (Ev.pos li this)))
 exact main ys.length 0 (by omega)
theorem weightFacts (ts : List S54) (ht : ts.length ≤ 1048577) (xs : List S64) (hx : xs.length ≤ 1048577) (lo : List Int) (hl : lo.length ≤ 1048577) :
  (Load ts xs lo ∧ Ev (fun k => spec_WagonWeights.f k ts xs lo) ((List.range ts.length).map fun j : Nat => sW xs lo j lo.length, sumN (fun j => sW xs lo j lo.length) ts.length, true) ∧ Ev (fun k => impl_WagonWeights.f k ts xs lo) ((List.range ts.length).map fun j : Nat => sW xs lo j lo.length, sumN (fun j => sW xs lo j lo.length) ts.length, true)) ∨
  (¬ Load ts xs lo ∧ Ev (fun k => spec_WagonWeights.f k ts xs lo) ([], 0, false) ∧ Ev (fun k => impl_WagonWeights.f k ts xs lo) ([], 0, false)) := by
 obtain ⟨b, h1, h2, h3⟩ := good ts ht xs hx lo hl
 unfold spec_WagonWeights.f impl_WagonWeights.f
 by_cases c : b = true
 ·obtain ⟨_, hc, hle, ho, _⟩ := h3.1 c
  have hs := small xs hc
  have hle : lo.length ≤ xs.length := by omega
  obtain ⟨p, q, hp, hq, hr, hu⟩ := usage ts ht xs hs lo hle ho
  let g : Nat → Int := fun j => sW xs lo j lo.length
  have eq : q = (List.range ts.length).map g := eq_of_rd g ts.length q hq (fun j hj => (hr j hj).2)
  have S : ∀ d i : Nat, i + d = ts.length → Ev (fun k => spec_WagonWeights.l0 k ts xs lo ((List.range i).map g) (sumN g i) i) ((List.range ts.length).map g, sumN g ts.length, true) := by
   intro d
   induction d with
   | zero =>
    intro i hi
    obtain rfl : i = ts.length := by omega
    exact Ev.step (fun k => spec_WagonWeights.l0.eq_2 ..) (Ev.neg (by omega) (Ev.now _))
   | succ d ih =>
    intro i hi
    have li : (i : Int) < ts.length := by omega
    have w1 : wrap64 ((i : Int) + 1) = ((i + 1 : Nat) : Int) := by rw [w64 (by omega) (by omega)]; rfl
    have := ih (i + 1) (by omega)
    rw [range_succ_map, ← w1] at this
    exact Ev.step (fun k => spec_WagonWeights.l0.eq_2 ..) (Ev.pos li (Ev.bind (sums xs hs lo hle i) (Ev.pos (by simp; omega) this)))
  have su := sumOf_eq g q (by omega) (fun j hj => (hr j (by omega)).2)
  rw [hq] at su
  refine .inl ⟨h3.1 c, Ev.some (Ev.bind h1 (Ev.pos c (S ts.length 0 (by omega)))), Ev.bind h2 (Ev.pos c (Ev.bind hu (Ev.bind su (Ev.eq (Ev.now _) ?_))))⟩
  rw [eq]
 ·exact .inr ⟨fun h => c (h3.2 h), Ev.some (Ev.bind h1 (Ev.neg c (Ev.now _))), Ev.bind h2 (Ev.neg c (Ev.now _))⟩
theorem wagonWeights (ts : List S54) (ht : ts.length ≤ 1048577) (xs : List S64) (hx : xs.length ≤ 1048577) (lo : List Int) (hl : lo.length ≤ 1048577) : ∃ r : List Int × Int × Bool, Ev (fun k => spec_WagonWeights.f k ts xs lo) r ∧ Ev (fun k => impl_WagonWeights.f k ts xs lo) r ∧ r.1.length ≤ 1048577 := by
 rcases weightFacts ts ht xs hx lo hl with ⟨_, a, b⟩ | ⟨_, a, b⟩
 ·exact ⟨_, a, b, by simpa using ht⟩
 ·exact ⟨_, a, b, by simp⟩
theorem has_eq (l : List Int) (hl : l.length ≤ 1000000000) (a : Int) : Ev (fun k => spec_l1Has.f k l a) (decide (a ∈ l)) := by
 unfold spec_l1Has.f
 have main : ∀ d i : Nat, i + d = l.length → Ev (fun k => spec_l1Has.l0 k l a i) (decide (a ∈ l.drop i)) := by
  intro d
  induction d with
  | zero =>
   intro i hi
   exact Ev.step (fun k => spec_l1Has.l0.eq_2 ..) (Ev.neg (by omega) (Ev.eq (Ev.now _) (by simp [List.drop_of_length_le (show l.length ≤ i by omega)])))
  | succ d ih =>
   intro i hi
   have w1 : wrap64 ((i : Int) + 1) = ((i + 1 : Nat) : Int) := by rw [w64 (by omega) (by omega)]; rfl
   have e : rd l (i : Int) = l[i]'(by omega) := by
    unfold rd
    rw [Int.toNat_natCast]
    exact getD_of (List.getElem?_eq_getElem (by omega))
   refine Ev.step (fun k => spec_l1Has.l0.eq_2 ..) (Ev.pos (by omega) (Ev.pos (by omega) ?_))
   rw [e, w1, List.drop_eq_getElem_cons (by omega)]
   by_cases c : l[i]'(by omega) = a
   ·exact Ev.pos c (Ev.eq (Ev.now _) (decide_eq_true (List.mem_cons.2 (Or.inl c.symm))).symm)
   ·refine Ev.neg c (Ev.eq (ih (i + 1) (by omega)) ?_)
    have : ¬ a = l[i]'(by omega) := fun h => c h.symm
    exact decide_eq_decide.2 ⟨fun h => List.mem_cons_of_mem _ h, fun h => (List.mem_cons.1 h).resolve_left this⟩
 exact main l.length 0 (by omega)
def upN (n : Nat) : List Int := (List.range n).map (fun j : Nat => (j : Int))
theorem upN_succ (n : Nat) : upN (n + 1) = upN n ++ [(n : Int)] := by
 unfold upN
 rw [List.range_succ, List.map_append]
 rfl
theorem upN_len (n : Nat) : (upN n).length = n := by unfold upN; simp
theorem upTo_eq (n : Nat) (hn : n ≤ 1048577) : Ev (fun k => impl_upTo.f k n) (upN n) := by
 unfold impl_upTo.f
 have main : ∀ d i : Nat, i + d = n → Ev (fun k => impl_upTo.l0 k (upN i) n i) (upN n) := by
  intro d
  induction d with
  | zero =>
   intro i hi
   obtain rfl : i = n := by omega
   exact Ev.step (fun k => impl_upTo.l0.eq_2 ..) (Ev.neg (by omega) (Ev.now _))
  | succ d ih =>
   intro i hi
   have hlen : (upN i).length < 17592186044416 := by rw [upN_len]; omega
   have li : (i : Int) < n := by omega
   have w1 : wrap64 ((i : Int) + 1) = ((i + 1 : Nat) : Int) := by rw [w64 (by omega) (by omega)]; rfl
   have := ih (i + 1) (by omega)
   rw [upN_succ, ← w1] at this
   exact Ev.step (fun k => impl_upTo.l0.eq_2 ..) (Ev.pos li (Ev.pos hlen this))
 exact main n 0 (by omega)
theorem emptyFacts (ts : List S54) (ht : ts.length ≤ 1048577) (xs : List S64) (hx : xs.length ≤ 1048577) (lo : List Int) (hl : lo.length ≤ 1048577) :
  (Load ts xs lo ∧ Ev (fun k => spec_EmptyWagons.f k ts xs lo) ((upN ts.length).filter fun x => !decide (x ∈ lo), true) ∧ Ev (fun k => impl_EmptyWagons.f k ts xs lo) ((upN ts.length).filter fun x => !decide (x ∈ lo), true)) ∨
  (¬ Load ts xs lo ∧ Ev (fun k => spec_EmptyWagons.f k ts xs lo) ([], false) ∧ Ev (fun k => impl_EmptyWagons.f k ts xs lo) ([], false)) := by
 obtain ⟨b, h1, h2, h3⟩ := good ts ht xs hx lo hl
 unfold spec_EmptyWagons.f impl_EmptyWagons.f
 by_cases c : b = true
 ·have h8 := (h3.1 c).1.1
  have pos : 0 < (upN ts.length).length := by rw [upN_len]; omega
  have S : ∀ d i : Nat, i + d = ts.length → Ev (fun k => spec_EmptyWagons.l0 k ts lo ((upN i).filter fun x => !decide (x ∈ lo)) i) ((upN ts.length).filter fun x => !decide (x ∈ lo), true) := by
   intro d
   induction d with
   | zero =>
    intro i hi
    obtain rfl : i = ts.length := by omega
    exact Ev.step (fun k => spec_EmptyWagons.l0.eq_2 ..) (Ev.neg (by omega) (Ev.now _))
   | succ d ih =>
    intro i hi
    have hlen : ((upN i).filter fun x => !decide (x ∈ lo)).length < 17592186044416 := Nat.lt_of_le_of_lt (List.length_filter_le _ _) (by rw [upN_len]; omega)
    have li : (i : Int) < ts.length := by omega
    have ha := has_eq lo (by omega) (i : Int)
    have w1 : wrap64 ((i : Int) + 1) = ((i + 1 : Nat) : Int) := by rw [w64 (by omega) (by omega)]; rfl
    have := ih (i + 1) (by omega)
    rw [upN_succ, List.filter_append, ← w1] at this
    by_cases q : (i : Int) ∈ lo
    ·have e : [(i : Int)].filter (fun x => !decide (x ∈ lo)) = [] := by simp [q]
     rw [e, List.append_nil] at this
     exact Ev.step (fun k => spec_EmptyWagons.l0.eq_2 ..) (Ev.pos li (Ev.bind ha (Ev.pos (decide_eq_true q) this)))
    ·have e : [(i : Int)].filter (fun x => !decide (x ∈ lo)) = [(i : Int)] := by simp [q]
     rw [e] at this
     exact Ev.step (fun k => spec_EmptyWagons.l0.eq_2 ..) (Ev.pos li (Ev.bind ha (Ev.neg (fun h => q (of_decide_eq_true h)) (Ev.pos hlen this))))
  have D : slices_DeleteFunc_int.f (upN ts.length) lo = some ((upN ts.length).filter fun x => !decide (x ∈ lo)) := by
   unfold slices_DeleteFunc_int.f
   rw [if_pos pos]
  exact .inl ⟨h3.1 c, Ev.some (Ev.bind h1 (Ev.pos c (S ts.length 0 (by omega)))), Ev.bind h2 (Ev.pos c (Ev.bind (upTo_eq ts.length ht) (Ev.const D (Ev.now _))))⟩
 ·exact .inr ⟨fun h => c (h3.2 h), Ev.some (Ev.bind h1 (Ev.neg c (Ev.now _))), Ev.bind h2 (Ev.neg c (Ev.now _))⟩
theorem emptyWagons (ts : List S54) (ht : ts.length ≤ 1048577) (xs : List S64) (hx : xs.length ≤ 1048577) (lo : List Int) (hl : lo.length ≤ 1048577) : ∃ r : List Int × Bool, Ev (fun k => spec_EmptyWagons.f k ts xs lo) r ∧ Ev (fun k => impl_EmptyWagons.f k ts xs lo) r ∧ r.1.length ≤ 1048577 := by
 rcases emptyFacts ts ht xs hx lo hl with ⟨_, a, b⟩ | ⟨_, a, b⟩
 ·exact ⟨_, a, b, Nat.le_trans (List.length_filter_le _ _) (by rw [upN_len]; exact ht)⟩
 ·exact ⟨_, a, b, by simp⟩
def cntN (lo : List Int) : Nat := (lo.filter fun x => decide (0 ≤ x)).length
theorem leftCount (xs : List S64) (hx : xs.length ≤ 1048577) (lo : List Int) (hl : lo.length = xs.length) : ∀ d i : Nat, i + d = xs.length → ∀ out : List ByteArray, out.length ≤ i → ∃ r : List ByteArray, r.length + cntN (lo.drop i) = out.length + d ∧ Ev (fun k => impl_LeftBehindContainers.l0 k xs out lo lo.length i) (r, true) := by
 intro d
 induction d with
 | zero =>
  intro i hi out ho
  exact ⟨out, by rw [List.drop_of_length_le (by omega)]; rfl, Ev.step (fun k => impl_LeftBehindContainers.l0.eq_2 ..) (Ev.neg (by omega) (Ev.now _))⟩
 | succ d ih =>
  intro i hi out ho
  have li : (i : Int) < xs.length := by omega
  have ll : (i : Int) < lo.length := by omega
  have il : i < lo.length := by omega
  have i0 : (0 : Int) ≤ i := by omega
  have er : rd lo (i : Int) = lo[i] := by
   unfold rd
   rw [Int.toNat_natCast]
   exact getD_of (List.getElem?_eq_getElem il)
  have ed : cntN (lo.drop i) = (if 0 ≤ rd lo i then 1 else 0) + cntN (lo.drop (i + 1)) := by
   rw [List.drop_eq_getElem_cons il, er]
   unfold cntN
   by_cases q : 0 ≤ lo[i]
   ·rw [if_pos q, List.filter_cons_of_pos (by simpa using q), List.length_cons]
    omega
   ·rw [if_neg q, List.filter_cons_of_neg (by simpa using q)]
    omega
  rw [ed]
  have b1 : -9223372036854775808 ≤ (i : Int) + 1 := by omega
  have b2 : (i : Int) + 1 ≤ 9223372036854775807 := by omega
  have b3 : i + 1 + d = xs.length := by omega
  by_cases c : rd lo i < 0
  ·have b4 : (out ++ [(rd_T64 xs i).f0]).length ≤ i + 1 := by rw [List.length_append, List.length_singleton]; omega
   have b5 : out.length < 8796093022208 := by omega
   obtain ⟨r, r1, r3⟩ := ih (i + 1) b3 (out ++ [(rd_T64 xs i).f0]) b4
   rw [List.length_append, List.length_singleton] at r1
   have q : r.length + ((if 0 ≤ rd lo i then 1 else 0) + cntN (lo.drop (i + 1))) = out.length + (d + 1) := by
    rw [if_neg (by omega)]
    omega
   have w1 : wrap64 ((i : Int) + 1) = ((i + 1 : Nat) : Int) := by rw [w64 b1 b2]; rfl
   rw [← w1] at r3
   exact ⟨r, q, Ev.step (fun k => impl_LeftBehindContainers.l0.eq_2 ..) (Ev.pos ll (Ev.pos i0 (Ev.pos ll (Ev.pos c (Ev.pos li (Ev.pos b5 r3))))))⟩
  ·obtain ⟨r, r1, r3⟩ := ih (i + 1) b3 out (by omega)
   have q : r.length + ((if 0 ≤ rd lo i then 1 else 0) + cntN (lo.drop (i + 1))) = out.length + (d + 1) := by
    rw [if_pos (by omega)]
    omega
   have w1 : wrap64 ((i : Int) + 1) = ((i + 1 : Nat) : Int) := by rw [w64 b1 b2]; rfl
   rw [← w1] at r3
   exact ⟨r, q, Ev.step (fun k => impl_LeftBehindContainers.l0.eq_2 ..) (Ev.pos ll (Ev.pos i0 (Ev.pos ll (Ev.neg c r3))))⟩
theorem leftFacts (ts : List S54) (ht : ts.length ≤ 1048577) (xs : List S64) (hx : xs.length ≤ 1048577) (lo : List Int) (hl : lo.length ≤ 1048577) (h : Load ts xs lo) : ∃ r : List ByteArray, r.length + cntN lo = xs.length ∧ Ev (fun k => impl_LeftBehindContainers.f k ts xs lo) (r, true) := by
 obtain ⟨b, _, h2, h3⟩ := good ts ht xs hx lo hl
 obtain ⟨r, r1, r3⟩ := leftCount xs hx lo h.2.2.1 xs.length 0 (by omega) [] (by simp)
 unfold impl_LeftBehindContainers.f
 exact ⟨r, by simpa using r1, Ev.bind h2 (Ev.pos (h3.2 h) r3)⟩
theorem rInts (xs : List Int) (hl : xs.length ≤ 1048577) : Ev (fun k => laws_rInts.f k xs xs) true := by
 unfold laws_rInts.f
 have main : ∀ d i : Nat, i + d = xs.length → Ev (fun k => laws_rInts.l0 k xs xs i) true := by
  intro d
  induction d with
  | zero =>
   intro i hi
   exact Ev.step (fun k => laws_rInts.l0.eq_2 ..) (Ev.neg (by omega) (Ev.now _))
  | succ d ih =>
   intro i hi
   refine Ev.step (fun k => laws_rInts.l0.eq_2 ..) (Ev.pos (by omega) (Ev.pos (by omega) (Ev.pos (by omega) (Ev.pos rfl ?_))))
   rw [show wrap64 ((i : Int) + 1) = ((i + 1 : Nat) : Int) from by rw [w64 (by omega) (by omega)]; rfl]
   exact ih (i + 1) (by omega)
 exact Ev.pos rfl (main xs.length 0 (by omega))
theorem draw_trainN {c : List Int} (hc : Bytes c) {a : Int} (s m : Int) (m0 : 2 ≤ m) (m1 : m ≤ 7) (h0 : 0 ≤ a) (h1 : a ≤ 10000000000000000) : Has (fun k => spec_l1Cur_train.f k c a s m) (FarL 100 a) := by
 unfold spec_l1Cur_train.f
 refine Has.bind (pick hc s m h0 (by omega)) fun r ⟨r0, r1, _, r3, r4⟩ => ?_
 have r5 := r1 (by omega)
 rw [show wrap64 (1 + r.1) = (((1 + r.1).toNat : Nat) : Int) from by rw [w64 (by omega) (by omega)]; omega]
 exact Has.mono (draw_train_at hc (1 + r.1).toNat [] r.2.1 r.2.2 (by simp; omega) (by simp; omega) (by omega) (by omega)) fun b hb => hb.up (by omega) (by omega)
theorem draw_most {c : List Int} (hc : Bytes c) : Has (fun k => spec_DrawMostContainers.f k c) (fun r => r.1.length ≤ 30 ∧ r.2.length ≤ 30) := by
 unfold spec_DrawMostContainers.f
 refine Has.bind (pick hc 0 8 (Int.le_refl 0) (by decide)) fun r ⟨r0, r1, _, r3, r4⟩ => ?_
 have r5 := r1 (by decide)
 have hd : 0 ≤ Int.tdiv r.1 7 ∧ Int.tdiv r.1 7 ≤ 1 := by rw [Int.tdiv_eq_ediv_of_nonneg r0]; omega
 have a0 : 0 ≤ r.2.1 := r3
 have a1 : r.2.1 ≤ 1000 := by omega
 obtain ⟨u, hu⟩ : ∃ u, u = Int.tdiv r.1 7 := ⟨_, rfl⟩
 rw [← hu] at hd ⊢
 have m0 : 2 ≤ 3 + u := by omega
 have m1 : 3 + u ≤ 7 := by omega
 clear r0 r1 r5 hu r3 r4
 rw [w64 (x := u) (Int.le_trans (by decide) hd.1) (Int.le_trans hd.2 (by decide)), w64 (x := 3 + u) (Int.le_trans (by decide) m0) (Int.le_trans m1 (by decide))]
 refine Has.bind (draw_trainN hc r.2.2 (3 + u) m0 m1 a0 (Int.le_trans a1 (by decide))) fun t ⟨t1, t2, t3⟩ => Has.bind (draw_conts hc t.2.2 (by omega) (by omega)) fun x ⟨x1, x2, x3⟩ => ?_
 refine Has.ite (fun h5 => Has.bind (one hc x.2.2 12 (by omega) (by omega)) fun q _ => Has.ite (fun _ => Has.now ⟨t1, x1⟩) (fun _ => Has.pos (by omega) (Has.now ⟨t1, ?_⟩))) (fun _ => Has.now ⟨t1, x1⟩)
 exact Nat.le_trans (List.length_take_le _ _) (by decide)
theorem rHas_eq (l : List Int) (hl : l.length ≤ 1000000000) (a : Int) : Ev (fun k => laws_rHas.f k l a) (decide (a ∈ l)) := by
 unfold laws_rHas.f
 have main : ∀ d i : Nat, i + d = l.length → Ev (fun k => laws_rHas.l0 k l a i) (decide (a ∈ l.drop i)) := by
  intro d
  induction d with
  | zero =>
   intro i hi
   exact Ev.step (fun k => laws_rHas.l0.eq_2 ..) (Ev.neg (by omega) (Ev.eq (Ev.now _) (by simp [List.drop_of_length_le (show l.length ≤ i by omega)])))
  | succ d ih =>
   intro i hi
   have w1 : wrap64 ((i : Int) + 1) = ((i + 1 : Nat) : Int) := by rw [w64 (by omega) (by omega)]; rfl
   have e : rd l (i : Int) = l[i]'(by omega) := by
    unfold rd
    rw [Int.toNat_natCast]
    exact getD_of (List.getElem?_eq_getElem (by omega))
   refine Ev.step (fun k => laws_rHas.l0.eq_2 ..) (Ev.pos (by omega) (Ev.pos (by omega) ?_))
   rw [e, w1, List.drop_eq_getElem_cons (by omega)]
   by_cases c : l[i]'(by omega) = a
   ·exact Ev.pos c (Ev.eq (Ev.now _) (decide_eq_true (List.mem_cons.2 (Or.inl c.symm))).symm)
   ·refine Ev.neg c (Ev.eq (ih (i + 1) (by omega)) ?_)
    have : ¬ a = l[i]'(by omega) := fun h => c h.symm
    exact decide_eq_decide.2 ⟨fun h => List.mem_cons_of_mem _ h, fun h => (List.mem_cons.1 h).resolve_left this⟩
 exact main l.length 0 (by omega)
theorem rSum_eq (g : Nat → Int) (ys : List Int) (hl : ys.length ≤ 1048577) (hy : ∀ j : Nat, j < ys.length → rd ys j = g j) : Ev (fun k => laws_rSum.f k ys) (sumN g ys.length) := by
 unfold laws_rSum.f
 have main : ∀ d i : Nat, i + d = ys.length → Ev (fun k => laws_rSum.l0 k ys (sumN g i) i) (sumN g ys.length) := by
  intro d
  induction d with
  | zero =>
   intro i hi
   obtain rfl : i = ys.length := by omega
   exact Ev.step (fun k => laws_rSum.l0.eq_2 ..) (Ev.neg (by omega) (Ev.now _))
  | succ d ih =>
   intro i hi
   have li : (i : Int) < ys.length := by omega
   have i0 : (0 : Int) ≤ i := by omega
   have w1 : wrap64 ((i : Int) + 1) = ((i + 1 : Nat) : Int) := by rw [w64 (by omega) (by omega)]; rfl
   have := ih (i + 1) (by omega)
   rw [← w1, show sumN g (i + 1) = wrap64 (sumN g i + rd ys i) from by rw [hy i (by omega)]; rfl] at this
   exact Ev.step (fun k => laws_rSum.l0.eq_2 ..) (Ev.pos li (Ev.pos i0 this))
 exact main ys.length 0 (by omega)
theorem rd_range (g : Nat → Int) (n j : Nat) (h : j < n) : rd ((List.range n).map g) j = g j := by
 unfold rd
 rw [Int.toNat_natCast]
 exact getD_of (by simp [h])
theorem sW_zero (xs : List S64) (hx : Conts xs) (lo : List Int) (w : Int) : ∀ n : Nat, n ≤ lo.length → n ≤ xs.length → (sW xs lo w n = 0 ↔ ∀ j : Nat, j < n → rd lo j ≠ w) := by
 intro n
 induction n with
 | zero => exact fun _ _ => ⟨fun _ j hj => absurd hj (by omega), fun _ => rfl⟩
 | succ n ih =>
  intro h1 h2
  have i := ih (by omega) (by omega)
  have bd := sW_bd xs (small xs hx) lo w n (by omega)
  have f2 := (hx.2 n (by omega)).1.2.2.1.1
  show (if rd lo n = w then sW xs lo w n + (rd_T64 xs n).f2 else sW xs lo w n) = 0 ↔ _
  by_cases c : rd lo n = w
  ·rw [if_pos c]
   exact ⟨fun h => by omega, fun h => absurd c (h n (by omega))⟩
  ·rw [if_neg c, i]
   refine ⟨fun h j hj => ?_, fun h j hj => h j (by omega)⟩
   rcases Nat.lt_or_ge j n with q | q
   ·exact h j q
   ·obtain rfl : j = n := by omega
    exact c
theorem mem_lo (lo : List Int) (w : Int) : w ∈ lo ↔ ∃ j : Nat, j < lo.length ∧ rd lo j = w := by
 constructor
 ·intro h
  obtain ⟨j, hj, e⟩ := List.getElem_of_mem h
  refine ⟨j, hj, ?_⟩
  unfold rd
  rw [Int.toNat_natCast, ← e]
  exact getD_of (List.getElem?_eq_getElem hj)
 ·rintro ⟨j, hj, e⟩
  rw [← e]
  unfold rd
  rw [Int.toNat_natCast, getD_of (List.getElem?_eq_getElem hj)]
  exact List.getElem_mem hj
theorem trainLoop3 (ts : List S54) (ht : ts.length ≤ 30) (xs : List S64) (lo : List Int) (hL : Load ts xs lo) : ∀ d i : Nat, i + d = ts.length →
  Has (fun k => laws_FnTrainLoading.l0 k ts ((List.range ts.length).map fun j : Nat => wrap64 ((rd_T54 ts j).f0 - sL xs lo j lo.length)) ((List.range ts.length).map fun j : Nat => sW xs lo j lo.length) (sumN (fun j => sW xs lo j lo.length) ts.length) ((upN ts.length).filter fun x => !decide (x ∈ lo)) i) (fun r => r = true) := by
 obtain ⟨hT, hC, hlen, hO, hF⟩ := hL
 have hs := small xs hC
 have l12 : xs.length ≤ 12 := hs.1
 intro d
 induction d with
 | zero =>
  intro i hi
  refine Has.step (fun k => laws_FnTrainLoading.l0.eq_2 ..) (Has.neg (by simp; omega) ?_)
  have su := rSum_eq (fun j => sW xs lo j lo.length) ((List.range ts.length).map fun j : Nat => sW xs lo j lo.length) (by simp; omega) (fun j hj => rd_range _ _ _ (by simpa using hj))
  rw [List.length_map, List.length_range] at su
  exact Has.ev su (Has.now (by simp))
 | succ d ih =>
  intro i hi
  have il : i < ts.length := by omega
  have f := hF i il
  have b1 := sL_bd xs hs lo i lo.length (by omega)
  have tw := (hT.2 i il).1
  have e1 := rd_range (fun j : Nat => wrap64 ((rd_T54 ts j).f0 - sL xs lo j lo.length)) ts.length i il
  have e2 := rd_range (fun j : Nat => sW xs lo j lo.length) ts.length i il
  have n1 : ¬ rd ((List.range ts.length).map fun j : Nat => wrap64 ((rd_T54 ts j).f0 - sL xs lo j lo.length)) i < 0 := by
   rw [e1, w64 (by omega) (by omega)]
   omega
  have n2 : ¬ rd ((List.range ts.length).map fun j : Nat => sW xs lo j lo.length) i > (rd_T54 ts i).f1 := by
   rw [e2]
   omega
  have mem : (i : Int) ∈ ((upN ts.length).filter fun x => !decide (x ∈ lo)) ↔ (i : Int) ∉ lo := by
   rw [List.mem_filter]
   refine ⟨fun h => by simpa using h.2, fun h => ⟨?_, by simpa using h⟩⟩
   unfold upN
   rw [List.mem_map]
   exact ⟨i, List.mem_range.2 il, rfl⟩
  have zero : sW xs lo i lo.length = 0 ↔ (i : Int) ∉ lo := (sW_zero xs hC lo i lo.length (Nat.le_refl _) (by omega)).trans ⟨fun h q => by
   obtain ⟨j, j1, j2⟩ := (mem_lo lo i).1 q
   exact h j j1 j2, fun h j hj e => h ((mem_lo lo i).2 ⟨j, hj, e⟩)⟩
  have same : ((rd ((List.range ts.length).map fun j : Nat => sW xs lo j lo.length) i == 0) != decide ((i : Int) ∈ ((upN ts.length).filter fun x => !decide (x ∈ lo)))) = false := by
   rw [e2]
   by_cases q : (i : Int) ∈ lo
   ·rw [decide_eq_false (fun h => mem.1 h q), beq_eq_false_iff_ne.2 (fun h => zero.1 h q)]
    rfl
   ·rw [decide_eq_true (mem.2 q), beq_iff_eq.2 (zero.2 q)]
    rfl
  have hl1 : (i : Int) < (((List.range ts.length).map fun j : Nat => wrap64 ((rd_T54 ts j).f0 - sL xs lo j lo.length)).length : Int) := by simp; omega
  have hl2 : (i : Int) < (((List.range ts.length).map fun j : Nat => sW xs lo j lo.length).length : Int) := by simp; omega
  have i0 : (0 : Int) ≤ i := by omega
  have lt : (i : Int) < ts.length := by omega
  have le : ((upN ts.length).filter fun x => !decide (x ∈ lo)).length ≤ 1000000000 := Nat.le_trans (List.length_filter_le _ _) (by rw [upN_len]; omega)
  have w1 : wrap64 ((i : Int) + 1) = ((i + 1 : Nat) : Int) := by rw [w64 (by omega) (by omega)]; rfl
  have := ih (i + 1) (by omega)
  rw [← w1] at this
  exact Has.step (fun k => laws_FnTrainLoading.l0.eq_2 ..) (Has.pos hl1 (Has.pos i0 (Has.neg n1 (Has.pos hl2 (Has.pos lt (Has.neg n2 (Has.ev (rHas_eq _ le i) (Has.neg (by rw [same]; exact fun h => by cases h) this))))))))
theorem train2 {c : List Int} (hc : Bytes c) : Has (fun k => laws_FnTrainLoading.j2 k c) (fun r => r = true) := by
 refine Has.step (fun k => laws_FnTrainLoading.j2.eq_2 ..) ?_
 unfold spec_DrawFreeLengths.f
 have dr : Has (fun k => (spec_DrawIsValidLoading.f k c).bind fun bt545 => (some (bt545.1, bt545.2.1, bt545.2.2))) (fun r => r.1.length ≤ 30 ∧ r.2.1.length ≤ 30 ∧ r.2.2.length ≤ 31) :=
  Has.bind (draw_loadings hc) fun a ha => Has.now ha
 refine Has.bind dr fun x ⟨x1, x2, x3⟩ => ?_
 rcases freeFacts x.1 (by omega) x.2.1 (by omega) x.2.2 (by omega) with ⟨hL, f1, f2⟩ | ⟨hN, f1, f2⟩
 ·rcases weightFacts x.1 (by omega) x.2.1 (by omega) x.2.2 (by omega) with ⟨_, w1, w2⟩ | ⟨h, _⟩
  ·rcases emptyFacts x.1 (by omega) x.2.1 (by omega) x.2.2 (by omega) with ⟨_, e1, e2⟩ | ⟨h, _⟩
   ·refine Has.ev f2 (Has.ev w2 (Has.ev e2 (Has.ev f1 (Has.ev w1 (Has.ev e1 (Has.neg (by simp) (Has.neg (by simp) (Has.neg (by simp) (Has.ev (rInts _ (by simp; omega)) (Has.pos rfl (Has.ev (rInts _ (by simp; omega)) (Has.pos rfl (Has.pos rfl (Has.ev (rInts _ ?_) ?_))))))))))))))
    ·exact Nat.le_trans (List.length_filter_le _ _) (by rw [upN_len]; omega)
    ·exact Has.step (fun k => laws_FnTrainLoading.j3.eq_2 ..) (Has.neg (by simp) (trainLoop3 x.1 x1 x.2.1 x.2.2 hL x.1.length 0 (by omega)))
   ·exact absurd hL h
  ·exact absurd hL h
 ·rcases weightFacts x.1 (by omega) x.2.1 (by omega) x.2.2 (by omega) with ⟨h, _⟩ | ⟨_, w1, w2⟩
  ·exact absurd h hN
  ·rcases emptyFacts x.1 (by omega) x.2.1 (by omega) x.2.2 (by omega) with ⟨h, _⟩ | ⟨_, e1, e2⟩
   ·exact absurd h hN
   ·refine Has.ev f2 (Has.ev w2 (Has.ev e2 (Has.ev f1 (Has.ev w1 (Has.ev e1 (Has.neg (by simp) (Has.neg (by simp) (Has.neg (by simp) (Has.ev (rInts [] (by simp)) (Has.pos rfl (Has.ev (rInts [] (by simp)) (Has.pos rfl (Has.pos rfl (Has.ev (rInts [] (by simp)) ?_))))))))))))))
    refine Has.step (fun k => laws_FnTrainLoading.j3.eq_2 ..) (Has.neg (by simp) (Has.step (fun k => laws_FnTrainLoading.l0.eq_2 ..) (Has.neg (by simp) ?_)))
    exact Has.ev (rSum_eq (fun _ => 0) [] (by simp) (fun j hj => absurd hj (by simp))) (Has.now rfl)
theorem FnTrainLoading : ∀ (l0 : (List Int)), (l0.length ≤ 9223372036854775807 ∧ ∀ x ∈ l0, (Lit.int .u8 x).wf = true) → ∃ k, laws_FnTrainLoading.f k l0 = some true := by
 intro l0 ⟨_, hw⟩
 have hc : Bytes l0 := bytes_wf hw
 suffices h : Has (fun k => laws_FnTrainLoading.f k l0) (fun r => r = true) by
  obtain ⟨r, hr, rfl⟩ := h
  exact Ev.rounds hr
 unfold laws_FnTrainLoading.f laws_rBig.f
 refine Has.val (Has.ite (fun _ => Has.now rfl) (fun _ => ?_))
 refine Has.bind (draw_most hc) fun x ⟨x1, x2⟩ => ?_
 obtain ⟨m, m1, m2, m3⟩ := mostContainers x.1 (by omega) x.2 (by omega)
 rcases loadFacts x.1 (by omega) x.2 (by omega) with ⟨hT, hC, r, r1, r2, r3, s1, i1⟩ | ⟨hn, s1, i1⟩
 ·have hL : Load x.1 x.2 r := ⟨hT, hC, r1, r2, r3⟩
  obtain ⟨left, q1, q2⟩ := leftFacts x.1 (by omega) x.2 (by omega) r (by omega) hL
  obtain ⟨b, _, g1, g2⟩ := good x.1 (by omega) x.2 (by omega) r (by omega)
  obtain ⟨p, _, t1, t2⟩ := train x.1 (by omega)
  refine Has.ev i1 (Has.ev s1 (Has.neg (by simp) (Has.ev (rInts r (by omega)) (Has.step (fun k => laws_FnTrainLoading.j0.eq_2 ..) (Has.neg (by simp) (Has.ev m2 (Has.ev m1 (Has.pos rfl (Has.step (fun k => laws_FnTrainLoading.j1.eq_2 ..) (Has.neg (by simp) (Has.pos rfl (Has.ev q2 (Has.pos rfl (Has.ev g1 (Has.pos (g2.2 hL) (Has.ev t1 (Has.pos (t2.2 hT) ?_)))))))))))))))))
  refine Has.ite (fun hm => Has.neg ?_ (train2 hc)) (fun _ => train2 hc)
  have le := m3 hm r r1 r2 r3
  have e : cntN r = impl_MostContainers.cnt r := rfl
  rw [← e] at le
  show ¬ wrap64 ((x.2.length : Int) - (left.length : Int)) > m.1
  have q3 : (x.2.length : Int) - (left.length : Int) = (cntN r : Int) := by omega
  rw [q3, w64 (by omega) (by omega)]
  omega
 ·refine Has.ev i1 (Has.ev s1 (Has.neg (by simp) (Has.ev (rInts [] (by simp)) (Has.step (fun k => laws_FnTrainLoading.j0.eq_2 ..) (Has.neg (by simp) (Has.ev m2 (Has.ev m1 (Has.pos rfl (Has.step (fun k => laws_FnTrainLoading.j1.eq_2 ..) (Has.neg (by simp) (Has.neg (by simp) (train2 hc))))))))))))
end Go.Proofs.Ythbibjfnmljpkaa.Pure
