/- The drawn trains: a moved container is on its wagon or stays behind, and with one destination for all every loading is sorted. No condition. -/
import Derived.Test.YtempmebpbbbkmaaInvFnWagons
import Derived.Test.YtempmebpbbbkmaaWHelp
import Derived.Lib.Zigzag
namespace Go.Proofs.Ytempmebpbbbkmaa.Pure
open Go.RowKit Go.Proofs.YtempmebpbbbkmaaW.PrintWords Go.Proofs.YtempmebpbbbkmaaW.PrintLast Go.Proofs.YtempmebpbbbkmaaW.PrintMore Go.Proofs.YtempmebpbbbkmaaW.Help Go.Proofs.Ytempmebpbbbkmaa.PFnWagons
set_option linter.unusedVariables false

/-- From some number of rounds on there is a value, and it is as told. -/
def Has {α : Type} (g : Nat → Option α) (Q : α → Prop) : Prop := ∃ r, Ev g r ∧ Q r
theorem Has.bind {α β : Type} {g : Nat → Option α} {f : Nat → α → Option β} {P : α → Prop} {Q : β → Prop} (h : Has g P) (k : ∀ a, P a → Has (fun n => f n a) Q) : Has (fun n => (g n).bind (f n)) Q := by
  obtain ⟨a, h1, h2⟩ := h
  obtain ⟨r, r1, r2⟩ := k a h2
  exact ⟨r, Ev.bind h1 r1, r2⟩
theorem Has.pos {α : Type} {c : Prop} [Decidable c] {A B : Nat → Option α} {Q : α → Prop} (h : c) (k : Has A Q) : Has (fun n => if c then A n else B n) Q := by
  obtain ⟨r, r1, r2⟩ := k
  exact ⟨r, Ev.pos h r1, r2⟩
theorem Has.neg {α : Type} {c : Prop} [Decidable c] {A B : Nat → Option α} {Q : α → Prop} (h : ¬ c) (k : Has B Q) : Has (fun n => if c then A n else B n) Q := by
  obtain ⟨r, r1, r2⟩ := k
  exact ⟨r, Ev.neg h r1, r2⟩
theorem Has.ite {α : Type} {c : Prop} [Decidable c] {A B : Nat → Option α} {Q : α → Prop} (h1 : c → Has A Q) (h2 : ¬ c → Has B Q) : Has (fun n => if c then A n else B n) Q := by
  by_cases h : c
  · exact Has.pos h (h1 h)
  · exact Has.neg h (h2 h)
theorem Has.now {α : Type} {a : α} {Q : α → Prop} (h : Q a) : Has (fun _ => some a) Q := ⟨a, Ev.now _, h⟩
theorem Has.step {α : Type} {g s : Nat → Option α} {Q : α → Prop} (e : ∀ k, g (k + 1) = s k) (h : Has s Q) : Has g Q := by
  obtain ⟨r, r1, r2⟩ := h
  exact ⟨r, Ev.step e r1, r2⟩
theorem Has.mono {α : Type} {g : Nat → Option α} {P Q : α → Prop} (h : Has g P) (k : ∀ a, P a → Q a) : Has g Q := by
  obtain ⟨r, r1, r2⟩ := h
  exact ⟨r, r1, k r r2⟩
theorem Has.val {α β : Type} {a : α} {f : Nat → α → Option β} {Q : β → Prop} (k : Has (fun n => f n a) Q) : Has (fun n => (some a).bind (f n)) Q := k
theorem Has.const {α β : Type} {o : Option α} {f : Nat → α → Option β} {a : α} {Q : β → Prop} (h : o = some a) (k : Has (fun n => f n a) Q) : Has (fun n => o.bind (f n)) Q := by
  obtain ⟨r, r1, r2⟩ := k
  exact ⟨r, Ev.const h r1, r2⟩
theorem Has.of {α : Type} {g : Nat → Option α} {r : α} {Q : α → Prop} (h : Ev g r) (k : Q r) : Has g Q := ⟨r, h, k⟩
theorem Has.ev {α β : Type} {g : Nat → Option α} {f : Nat → α → Option β} {a : α} {Q : β → Prop} (h : Ev g a) (k : Has (fun n => f n a) Q) : Has (fun n => (g n).bind (f n)) Q := by
  obtain ⟨r, r1, r2⟩ := k
  exact ⟨r, Ev.bind h r1, r2⟩

/-- The drawing's bytes. -/
def Bytes (c : List Int) : Prop := ∀ x ∈ c, 0 ≤ x ∧ x ≤ 255
theorem bytes_wf {c : List Int} (h : ∀ x ∈ c, (Lit.int .u8 x).wf = true) : Bytes c := fun x hx => by
  have := h x hx
  simp [Lit.wf, IntKind.min, IntKind.max, IntKind.signed, IntKind.bits] at this
  omega
theorem byte_of (y : Int) : 0 ≤ y % 2 ^ 8 ∧ y % 2 ^ 8 ≤ 255 := by omega
theorem byte_w (z : Int) (h : 0 ≤ z ∧ z ≤ 255) : 0 ≤ wrap64 z ∧ wrap64 z ≤ 255 := by
  rw [w64 (by omega) (by omega)]
  exact h
theorem high_of (s : Int) : 0 ≤ IntKind.u64.wrap s / 1099511627776 ∧ IntKind.u64.wrap s / 1099511627776 < 2 ^ 64 := by
  rw [IntKind.wrap_u64]
  omega
theorem low_byte (s : Int) : 0 ≤ wrap64 (Go.bits .and .u64 (IntKind.u64.wrap s / 1099511627776) 255) ∧ wrap64 (Go.bits .and .u64 (IntKind.u64.wrap s / 1099511627776) 255) ≤ 255 := by
  have h0 := high_of s
  generalize IntKind.u64.wrap s / 1099511627776 = y at h0 ⊢
  have e : Go.bits .and .u64 y 255 = y % 2 ^ 8 := bits_mask .u64 64 (by decide) Go.wraps_u64 8 (by decide) y h0.1 h0.2
  rw [e]
  exact byte_w _ (byte_of _)
theorem next_some (c : List Int) (hc : Bytes c) (a s : Int) (h0 : 0 ≤ a) (h1 : a ≤ 4611686018427387904) : ∃ x t, spec_l1Cur_next.f c a s = some (x, a + 1, t) ∧ 0 ≤ x ∧ x ≤ 255 := by
  unfold spec_l1Cur_next.f
  rw [show wrap64 (a + 1) = a + 1 from w64 (by omega) (by omega)]
  by_cases q : a < (c.length : Int)
  · have e : 0 ≤ rd c a ∧ rd c a ≤ 255 := by
      unfold rd
      rw [getD_of (List.getElem?_eq_getElem (by omega))]
      exact hc _ (List.getElem_mem _)
    rw [if_pos q, if_pos h0, if_pos (by omega), w64 (by omega) (by omega)]
    exact ⟨_, _, rfl, e⟩
  · rw [if_neg q, if_neg (by omega)]
    exact ⟨_, _, rfl, low_byte _⟩
/-- A drawn number: the number itself and how far the drawing is. -/
def Dr (n a : Int) (r : Int × Int × Int) : Prop := 0 ≤ r.1 ∧ (1 < n → r.1 < n) ∧ (n ≤ 1 → r.1 = 0) ∧ a ≤ r.2.1 ∧ r.2.1 ≤ a + 2
theorem pick_some (c : List Int) (hc : Bytes c) (a s n : Int) (h0 : 0 ≤ a) (h1 : a ≤ 2305843009213693952) : ∃ r, spec_l1Cur_pick.f c a s n = some r ∧ Dr n a r := by
  unfold spec_l1Cur_pick.f
  by_cases q : n ≤ 1
  · rw [if_pos q]
    exact ⟨_, rfl, by simp [Dr]; omega⟩
  · rw [if_neg q]
    obtain ⟨x, t, e, x0, x1⟩ := next_some c hc a s h0 (by omega)
    rw [e]
    simp only [Option.bind_some]
    by_cases q2 : n > 200
    · rw [if_pos q2]
      obtain ⟨y, u, e2, y0, y1⟩ := next_some c hc (a + 1) t (by omega) (by omega)
      rw [e2]
      simp only [Option.bind_some]
      rw [if_neg (by omega), show wrap64 (x * 256) = x * 256 from w64 (by omega) (by omega), show wrap64 (x * 256 + y) = x * 256 + y from w64 (by omega) (by omega), Int.tmod_eq_emod_of_nonneg (by omega)]
      have m0 := Int.emod_nonneg (x * 256 + y) (show n ≠ 0 by omega)
      have m1 := Int.emod_lt_of_pos (x * 256 + y) (show 0 < n by omega)
      exact ⟨_, rfl, by simp only [Dr]; omega⟩
    · rw [if_neg q2, if_neg (by omega), Int.tmod_eq_emod_of_nonneg (by omega)]
      have m0 := Int.emod_nonneg x (show n ≠ 0 by omega)
      have m1 := Int.emod_lt_of_pos x (show 0 < n by omega)
      exact ⟨_, rfl, by simp only [Dr]; omega⟩
theorem pick {c : List Int} (hc : Bytes c) {a : Int} (s n : Int) (h0 : 0 ≤ a) (h1 : a ≤ 2305843009213693952) : Has (fun _ => spec_l1Cur_pick.f c a s n) (Dr n a) := by
  obtain ⟨r, e, d⟩ := pick_some c hc a s n h0 h1
  exact ⟨r, Ev.nor e, d⟩
/-- How far a drawing is behind at most m numbers. -/
def Far {α : Type} (m a : Int) (r : α × Int × Int) : Prop := a ≤ r.2.1 ∧ r.2.1 ≤ a + m
theorem among {c : List Int} (hc : Bytes c) {a : Int} (s : Int) (l : List Int) (hl : l ≠ []) (h0 : 0 ≤ a) (h1 : a ≤ 2305843009213693952) : Has (fun _ => spec_l1Cur_among.f c a s l) (fun r => r.1 ∈ l ∧ a ≤ r.2.1 ∧ r.2.1 ≤ a + 2) := by
  have hn : 0 < l.length := List.length_pos_iff.2 hl
  unfold spec_l1Cur_among.f
  refine Has.bind (pick hc s _ h0 h1) fun r ⟨r0, r1, r2, r3, r4⟩ => ?_
  have r5 : r.1 < (l.length : Int) := by
    rcases Int.lt_or_le 1 (l.length : Int) with h | h
    · exact r1 h
    · have := r2 h
      omega
  refine Has.pos r0 (Has.pos r5 (Has.now ⟨?_, r3, r4⟩))
  unfold rd
  rw [getD_of (List.getElem?_eq_getElem (by omega))]
  exact List.getElem_mem _
/-- A number of the first ones of a list. -/
theorem amongCut {β : Type} {c : List Int} (hc : Bytes c) {a : Int} (s : Int) (l : List Int) (b : Int) (hb : 1 ≤ b) (hl : b + 2 ≤ (l.length : Int)) (hm : (l.length : Int) ≤ 1000) (h0 : 0 ≤ a) (h1 : a ≤ 1152921504606846976) {K : Nat → Int × Int × Int → Option β} {Q : β → Prop}
    (k : ∀ r : Int × Int × Int, r.1 ∈ l → a ≤ r.2.1 → r.2.1 ≤ a + 4 → Has (fun n => K n r) Q) :
    Has (fun n => (spec_l1Cur_pick.f c a s 24).bind fun bt => (if 0 ≤ (wrap64 (b + (wrap64 (Int.tdiv bt.1 11)))) then (if (wrap64 (b + (wrap64 (Int.tdiv bt.1 11)))) ≤ (l.length : Int) then ((spec_l1Cur_among.f c bt.2.1 bt.2.2 (l.take ((wrap64 (b + (wrap64 (Int.tdiv bt.1 11)))) : Int).toNat)).bind (K n)) else (none)) else (none))) Q := by
  refine Has.bind (pick hc s 24 h0 (by omega)) fun r ⟨r0, r1, _, r3, r4⟩ => ?_
  have r5 := r1 (by omega)
  have e : wrap64 (b + wrap64 (Int.tdiv r.1 11)) = b + r.1 / 11 := by
    rw [Int.tdiv_eq_ediv_of_nonneg r0, w64 (x := r.1 / 11) (by omega) (by omega), w64 (by omega) (by omega)]
  rw [e]
  refine Has.pos (by omega) (Has.pos (by omega) ?_)
  refine Has.bind (among hc (a := r.2.1) r.2.2 _ ?_ (by omega) (by omega)) fun q ⟨q0, q1, q2⟩ => k q (List.mem_of_mem_take q0) (by omega) (by omega)
  intro h
  have h2 := congrArg List.length h
  rw [List.length_take, List.length_nil] at h2
  omega

theorem one {c : List Int} (hc : Bytes c) {a : Int} (s n : Int) (h0 : 0 ≤ a) (h1 : a ≤ 2305843009213693952) : Has (fun _ => spec_l1Cur_one.f c a s n) (fun r => a ≤ r.2.1 ∧ r.2.1 ≤ a + 2) := by
  unfold spec_l1Cur_one.f
  exact Has.bind (pick hc s n h0 h1) fun r ⟨_, _, _, r3, r4⟩ => Has.now ⟨r3, r4⟩


theorem drawOf {c : List Int} (hc : Bytes c) {a : Int} (s : Int) (l : List ByteArray) (hl : l ≠ []) (h0 : 0 ≤ a) (h1 : a ≤ 2305843009213693952) : Has (fun _ => spec_l1Cur_of.f c a s l) (fun r => r.1 ∈ l ∧ a ≤ r.2.1 ∧ r.2.1 ≤ a + 2) := by
  have hn : 0 < l.length := List.length_pos_iff.2 hl
  unfold spec_l1Cur_of.f
  refine Has.bind (pick hc s _ h0 h1) fun r ⟨r0, r1, r2, r3, r4⟩ => ?_
  have r5 : r.1 < (l.length : Int) := by
    rcases Int.lt_or_le 1 (l.length : Int) with h | h
    · exact r1 h
    · have := r2 h
      omega
  refine Has.pos r0 (Has.pos r5 (Has.now ⟨?_, r3, r4⟩))
  unfold rdOf
  rw [List.getD_eq_getElem?_getD, List.getElem?_eq_getElem (by omega)]
  exact List.getElem_mem _
/-- The letter of a text of seven bytes or more: there is one. -/
theorem check7 (s : ByteArray) (hs : 7 ≤ s.size) : Has (fun k => spec_l2Check.f k s) (fun _ => True) := by
  unfold spec_l2Check.f
  have main : ∀ d i : Nat, i + d = 7 → ∀ a : Int, Has (fun k => spec_l2Check.l0 k s a i) (fun _ => True) := by
    intro d
    induction d with
    | zero =>
      intro i hi a
      exact Has.step (fun k => spec_l2Check.l0.eq_2 ..) (Has.neg (by omega) (Has.now trivial))
    | succ d ih =>
      intro i hi a
      refine Has.step (fun k => spec_l2Check.l0.eq_2 ..) (Has.pos (by omega) (Has.pos (by omega) (Has.pos (by omega) ?_)))
      rw [show wrap64 ((i : Int) + 1) = ((i + 1 : Nat) : Int) from by rw [w64 (by omega) (by omega)]; rfl]
      exact Has.ite (fun _ => ih (i + 1) (by omega) _) (fun _ => ih (i + 1) (by omega) _)
  exact main 7 0 (by omega) 0
theorem strOne (t : Int) : (strOfNums [t]).size = 1 := rfl

theorem l1In_eq (a b c : Int) : spec_l1In.f a b c = some (decide (b ≤ a ∧ a ≤ c)) := by
  unfold spec_l1In.f
  by_cases h : b ≤ a <;> simp [h]

theorem within_eq (a b c : Int) : impl_within.f a b c = some (decide (b ≤ a ∧ a ≤ c)) := by
  unfold impl_within.f
  by_cases h : b ≤ a <;> simp [h]


def wagonOk (x : S60) : Prop := (1 ≤ x.f0 ∧ x.f0 ≤ 3) ∧ (1 ≤ x.f1 ∧ x.f1 ≤ 100000)
instance (x : S60) : Decidable (wagonOk x) := by unfold wagonOk; infer_instance
def Train (ts : List S60) : Prop := (1 ≤ (ts.length : Int) ∧ (ts.length : Int) ≤ 8) ∧ ∀ j : Nat, j < ts.length → wagonOk (rd_T60 ts j)
theorem notWagon (x : S60) : impl_IsValidTrain_1.f x.f0 x.f1 = some (!decide (wagonOk x)) := by
  unfold impl_IsValidTrain_1.f wagonOk
  rw [within_eq, within_eq]
  by_cases h : 1 ≤ x.f0 ∧ x.f0 ≤ 3
  · simp only [h, Option.bind_some, true_and, and_self, decide_true, if_true]
  · simp only [h, Option.bind_some, false_and, decide_false]
    rfl
theorem trainLoop (ts : List S60) (hl : ts.length ≤ 1048577) : ∀ d i : Nat, i + d = ts.length → ∃ (b : Bool) (q : Int), Ev (fun k => spec_l19Train.l0 k ts i) (b && decide (1 ≤ (ts.length : Int) ∧ (ts.length : Int) ≤ 8)) ∧
    Ev (fun k => slices_IndexFunc_impl_Wagon.l0 k ts ts.length i) q ∧ (!decide (q ≥ 0)) = b ∧ (b = true ↔ ∀ j : Nat, i ≤ j → j < ts.length → wagonOk (rd_T60 ts j)) := by
  intro d
  induction d with
  | zero =>
    intro i hi
    exact ⟨true, -1, Ev.step (fun k => spec_l19Train.l0.eq_2 ..) (Ev.neg (by omega) (Ev.const (l1In_eq _ _ _) (Ev.eq (Ev.now _) (Bool.true_and _).symm))), Ev.step (fun k => slices_IndexFunc_impl_Wagon.l0.eq_2 ..) (Ev.neg (by omega) (Ev.now _)), rfl, ⟨fun _ j h1 h2 => absurd h2 (by omega), fun _ => rfl⟩⟩
  | succ d ih =>
    intro i hi
    have li : (i : Int) < ts.length := by omega
    have l0 : (0 : Int) ≤ i := by omega
    have w1 : wrap64 ((i : Int) + 1) = ((i + 1 : Nat) : Int) := by rw [w64 (by omega) (by omega)]; rfl
    have no := notWagon (rd_T60 ts i)
    by_cases c : wagonOk (rd_T60 ts i)
    · obtain ⟨b, q, h1, h2, h3, h4⟩ := ih (i + 1) (by omega)
      rw [← w1] at h1 h2
      refine ⟨b, q, ?_, ?_, h3, h4.trans ⟨fun h j j1 j2 => ?_, fun h j j1 j2 => h j (by omega) j2⟩⟩
      · exact Ev.step (fun k => spec_l19Train.l0.eq_2 ..) (Ev.pos li (Ev.pos l0 (Ev.const (l1In_eq _ _ _) (Ev.pos (decide_eq_true c.1) (Ev.const (l1In_eq _ _ _) (Ev.pos (decide_eq_true c.2) h1))))))
      · refine Ev.step (fun k => slices_IndexFunc_impl_Wagon.l0.eq_2 ..) (Ev.pos li (Ev.pos l0 (Ev.pos li (Ev.const no (Ev.neg ?_ h2)))))
        rw [decide_eq_true c]
        exact fun h => by cases h
      · rcases Nat.lt_or_ge i j with q | q
        · exact h j q j2
        · obtain rfl : j = i := by omega
          exact c
    · refine ⟨false, i, ?_, ?_, by simp, ⟨fun h => (by cases h), fun h => absurd (h i (Nat.le_refl _) (by omega)) c⟩⟩
      · refine Ev.step (fun k => spec_l19Train.l0.eq_2 ..) (Ev.pos li (Ev.pos l0 (Ev.const (l1In_eq _ _ _) (Ev.ite (fun h1 => Ev.const (l1In_eq _ _ _) (Ev.neg (fun h2 => c ⟨of_decide_eq_true h1, of_decide_eq_true h2⟩) (Ev.now _))) (fun _ => Ev.now _)))))
      · refine Ev.step (fun k => slices_IndexFunc_impl_Wagon.l0.eq_2 ..) (Ev.pos li (Ev.pos l0 (Ev.pos li (Ev.const no (Ev.pos ?_ (Ev.now _))))))
        rw [decide_eq_false c]
        rfl
/-- Both tests of a train. -/
theorem train (ts : List S60) (hl : ts.length ≤ 1048577) : ∃ b : Bool, Ev (fun k => spec_l19Train.f k ts) b ∧ Ev (fun k => impl_IsValidTrain.f k ts) b ∧ (b = true ↔ Train ts) := by
  obtain ⟨b, q, h1, h2, h3, h4⟩ := trainLoop ts hl ts.length 0 (by omega)
  unfold spec_l19Train.f impl_IsValidTrain.f slices_ContainsFunc_impl_Wagon.f slices_IndexFunc_impl_Wagon.f
  by_cases c : 1 ≤ (ts.length : Int) ∧ (ts.length : Int) ≤ 8
  · rw [decide_eq_true c, Bool.and_true] at h1
    exact ⟨b, h1, Ev.const (within_eq _ _ _) (Ev.pos (decide_eq_true c) (Ev.bind (Ev.bind h2 (Ev.now _)) (Ev.eq (Ev.now _) h3))), h4.trans ⟨fun h => ⟨c, fun j hj => h j (by omega) hj⟩, fun h j _ hj => h.2 j hj⟩⟩
  · rw [decide_eq_false c, Bool.and_false] at h1
    exact ⟨false, h1, Ev.const (within_eq _ _ _) (Ev.neg (fun h => c (of_decide_eq_true h)) (Ev.now _)), ⟨fun h => (by cases h), fun h => absurd h.1 c⟩⟩

theorem str_ext {s t : ByteArray} (h : s.data.toList = t.data.toList) : s = t := by
  obtain ⟨⟨a⟩⟩ := s
  obtain ⟨⟨b⟩⟩ := t
  have h' : a = b := h
  rw [h']
theorem str_eq {s t : ByteArray} : s.toList = t.toList ↔ s = t := by
  rw [ByteArray.toList_eq, ByteArray.toList_eq]
  exact ⟨str_ext, fun h => by rw [h]⟩

/-- Byte i of seven is as it should be: a letter, a digit. -/
def okB (s : ByteArray) (i : Nat) : Prop := (i < 3 → 65 ≤ bt s i ∧ bt s i ≤ 90) ∧ (3 ≤ i → 48 ≤ bt s i ∧ bt s i ≤ 57)
theorem bt_bd (s : ByteArray) (i : Int) : 0 ≤ bt s i ∧ bt s i ≤ 255 := by
  unfold bt
  split
  · rename_i h
    have := (s[i.toNat]'h).toNat_lt
    omega
  · omega
theorem letters (s : ByteArray) (hs : s.size = 7) : ∀ d i : Nat, i + d = 7 → ∀ a : Int, 0 ≤ a → a ≤ 1000 * i → ∃ (b : Bool) (c : Int), Ev (fun k => spec_l2Seven.l0 k s i) b ∧ Ev (fun k => impl_checkLetter.l0 k s a 7 i) (if b = true then (c, true) else (0, false)) ∧ (b = true → Ev (fun k => spec_l2Check.l0 k s a i) c) := by
  intro d
  induction d with
  | zero =>
    intro i hi a h0 h1
    obtain rfl : i = 7 := by omega
    have e : Int.tmod a 23 = a % 23 := Int.tmod_eq_emod_of_nonneg h0
    have e1 : wrap64 (65 + a % 23) = 65 + a % 23 := w64 (by omega) (by omega)
    refine ⟨true, (65 + (a % 23) % 256) % 256, Ev.step (fun k => spec_l2Seven.l0.eq_2 ..) (Ev.neg (by omega) (Ev.now _)), Ev.step (fun k => impl_checkLetter.l0.eq_2 ..) (Ev.neg (by omega) (Ev.eq (Ev.now _) ?_)), fun _ => Ev.step (fun k => spec_l2Check.l0.eq_2 ..) (Ev.neg (by omega) (Ev.eq (Ev.now _) ?_))⟩
    · rw [e, e1, if_pos rfl]
      congr 1
      omega
    · rw [e]
  | succ d ih =>
    intro i hi a h0 h1
    have w1 : wrap64 ((i : Int) + 1) = ((i + 1 : Nat) : Int) := by rw [w64 (by omega) (by omega)]; rfl
    have w2 : wrap64 ((i : Int) + 2) = (i : Int) + 2 := w64 (by omega) (by omega)
    have hb := bt_bd s i
    have hsz : (s.size : Int) = 7 := by omega
    generalize hv : bt s i = v at hb
    have w3 : wrap64 v = v := w64 (by omega) (by omega)
    have w4 : wrap64 (v - 65) = v - 65 := w64 (by omega) (by omega)
    have w5 : wrap64 (v - 65 + 1) = v - 65 + 1 := w64 (by omega) (by omega)
    have w6 : wrap64 (v - 48) = v - 48 := w64 (by omega) (by omega)
    by_cases c3 : i < 3
    · by_cases c : 65 ≤ v ∧ v ≤ 90
      · have m1 : (v - 65) % 256 = v - 65 := by omega
        have p1 : 0 ≤ ((i : Int) + 2) * (v - 65 + 1) ∧ ((i : Int) + 2) * (v - 65 + 1) ≤ 26 * ((i : Int) + 2) := by
          have h3 : ((i : Int) + 2) * (v - 65 + 1) ≤ ((i : Int) + 2) * 26 := Int.mul_le_mul_of_nonneg_left (by omega) (by omega)
          exact ⟨Int.mul_nonneg (by omega) (by omega), by omega⟩
        have w7 : wrap64 (((i : Int) + 2) * (v - 65 + 1)) = ((i : Int) + 2) * (v - 65 + 1) := w64 (by omega) (by omega)
        have w8 : wrap64 (a + ((i : Int) + 2) * (v - 65 + 1)) = a + ((i : Int) + 2) * (v - 65 + 1) := w64 (by omega) (by omega)
        obtain ⟨b, cc, s1, s2, s3⟩ := ih (i + 1) (by omega) (a + ((i : Int) + 2) * (v - 65 + 1)) (by omega) (by omega)
        refine ⟨b, cc, Ev.step (fun k => spec_l2Seven.l0.eq_2 ..) ?_, Ev.step (fun k => impl_checkLetter.l0.eq_2 ..) ?_, fun h => Ev.step (fun k => spec_l2Check.l0.eq_2 ..) ?_⟩
        · rw [hv, w1, hsz]
          exact Ev.pos (by omega) (Ev.pos (by omega) (Ev.pos (by omega) (Ev.pos (by omega) (Ev.neg (by omega) (Ev.neg (by omega) (Ev.neg (by omega) s1))))))
        · rw [hv, hsz]
          refine Ev.pos (by omega) (Ev.pos (by omega) (Ev.pos (by omega) (Ev.pos (by omega) (Ev.pos (by omega) ?_))))
          refine Ev.step (fun k => impl_checkLetter.j1.eq_2 ..) (Ev.pos (by simp; omega) ?_)
          rw [w1, w2, m1, w7, w8]
          exact s2
        · rw [hv, hsz]
          refine Ev.pos (by omega) (Ev.pos (by omega) (Ev.pos (by omega) (Ev.pos (by omega) ?_)))
          rw [w1, w2, w3, w4, w5, Int.mul_comm (v - 65 + 1), w7, w8]
          exact s3 h
      · refine ⟨false, 0, Ev.step (fun k => spec_l2Seven.l0.eq_2 ..) ?_, Ev.step (fun k => impl_checkLetter.l0.eq_2 ..) ?_, fun h => by cases h⟩
        · rw [hv, hsz]
          refine Ev.pos (by omega) (Ev.pos (by omega) (Ev.pos (by omega) (Ev.pos (by omega) ?_)))
          exact Ev.ite (fun _ => Ev.now _) (fun q => Ev.pos (by omega) (Ev.now _))
        · rw [hv, hsz]
          refine Ev.pos (by omega) (Ev.pos (by omega) (Ev.pos (by omega) (Ev.pos (by omega) ?_)))
          have jj : Ev (fun k => impl_checkLetter.j1 k s a i v 7 i false) (0, false) := Ev.step (fun k => impl_checkLetter.j1.eq_2 ..) (Ev.neg (by simp) (Ev.neg (by omega) (Ev.now _)))
          refine Ev.ite (fun q => ?_) (fun _ => jj)
          rw [show decide (v ≤ 90) = false from by simp; omega]
          exact jj
    · by_cases c : 48 ≤ v ∧ v ≤ 57
      · have m1 : (v - 48) % 256 = v - 48 := by omega
        have p1 : 0 ≤ ((i : Int) + 2) * (v - 48) ∧ ((i : Int) + 2) * (v - 48) ≤ 9 * ((i : Int) + 2) := by
          have h3 : ((i : Int) + 2) * (v - 48) ≤ ((i : Int) + 2) * 9 := Int.mul_le_mul_of_nonneg_left (by omega) (by omega)
          exact ⟨Int.mul_nonneg (by omega) (by omega), by omega⟩
        have w7 : wrap64 (((i : Int) + 2) * (v - 48)) = ((i : Int) + 2) * (v - 48) := w64 (by omega) (by omega)
        have w8 : wrap64 (a + ((i : Int) + 2) * (v - 48)) = a + ((i : Int) + 2) * (v - 48) := w64 (by omega) (by omega)
        obtain ⟨b, cc, s1, s2, s3⟩ := ih (i + 1) (by omega) (a + ((i : Int) + 2) * (v - 48)) (by omega) (by omega)
        refine ⟨b, cc, Ev.step (fun k => spec_l2Seven.l0.eq_2 ..) ?_, Ev.step (fun k => impl_checkLetter.l0.eq_2 ..) ?_, fun h => Ev.step (fun k => spec_l2Check.l0.eq_2 ..) ?_⟩
        · rw [hv, w1, hsz]
          exact Ev.pos (by omega) (Ev.neg (by omega) (Ev.pos (by omega) (Ev.pos (by omega) (Ev.pos (by omega) (Ev.neg (by omega) (Ev.neg (by omega) s1))))))
        · rw [hv, hsz]
          refine Ev.pos (by omega) (Ev.pos (by omega) (Ev.pos (by omega) (Ev.neg (by omega) ?_)))
          refine Ev.step (fun k => impl_checkLetter.j1.eq_2 ..) (Ev.neg (by simp) (Ev.pos (by omega) (Ev.pos (by omega) (Ev.pos (by omega) ?_))))
          rw [w1, w2, m1, w7, w8]
          exact s2
        · rw [hv, hsz]
          refine Ev.pos (by omega) (Ev.pos (by omega) (Ev.pos (by omega) (Ev.neg (by omega) ?_)))
          rw [w1, w2, w3, w6, Int.mul_comm (v - 48), w7, w8]
          exact s3 h
      · refine ⟨false, 0, Ev.step (fun k => spec_l2Seven.l0.eq_2 ..) ?_, Ev.step (fun k => impl_checkLetter.l0.eq_2 ..) ?_, fun h => by cases h⟩
        · rw [hv, hsz]
          refine Ev.pos (by omega) (Ev.neg (by omega) (Ev.pos (by omega) (Ev.pos (by omega) (Ev.pos (by omega) ?_))))
          exact Ev.ite (fun _ => Ev.now _) (fun q => Ev.pos (by omega) (Ev.now _))
        · rw [hv, hsz]
          refine Ev.pos (by omega) (Ev.pos (by omega) (Ev.pos (by omega) (Ev.neg (by omega) ?_)))
          refine Ev.step (fun k => impl_checkLetter.j1.eq_2 ..) (Ev.neg (by simp) (Ev.pos (by omega) (Ev.ite (fun q => Ev.neg (by omega) (Ev.now _)) (fun _ => Ev.now _))))

/-- Is a text an identifier: the reference's test and the program's. -/
theorem ids (s : ByteArray) : ∃ b : Bool, Ev (fun k => spec_l2Id.f k s) b ∧ Ev (fun k => impl_IsValidId.f k s) b ∧ (b = true → s.size = 8) := by
  unfold spec_l2Id.f impl_IsValidId.f
  by_cases c : (s.size : Int) = 8
  · have hx : (s.extract 0 7).size = 7 := by
      rw [ByteArray.size_extract]
      omega
    obtain ⟨b, l, h1, h2, h3⟩ := letters (s.extract 0 7) hx 7 0 (by omega) 0 (by omega) (by omega)
    have g1 : Ev (fun k => spec_l2Seven.f k (s.extract 0 7)) b := by
      unfold spec_l2Seven.f
      exact Ev.pos (by omega) h1
    have g2 : Ev (fun k => impl_checkLetter.f k (s.extract 0 7)) (if b = true then (l, true) else (0, false)) := by
      unfold impl_checkLetter.f
      rw [show ((s.extract 0 7).size : Int) = 7 by omega]
      exact Ev.pos rfl h2
    cases b with
    | false => exact ⟨false, Ev.pos c (Ev.pos (by omega) (Ev.pos (by omega) (Ev.bind g1 (Ev.neg (by simp) (Ev.now _))))), Ev.pos c (Ev.pos (by omega) (Ev.pos (by omega) (Ev.bind g2 (Ev.neg (by simp) (Ev.now _))))), fun h => by cases h⟩
    | true =>
      refine ⟨bt s 7 == l, Ev.pos c (Ev.pos (by omega) (Ev.pos (by omega) (Ev.bind g1 (Ev.pos rfl (Ev.pos (by omega) (Ev.bind (a := l) ?_ (Ev.now _))))))), Ev.pos c (Ev.pos (by omega) (Ev.pos (by omega) (Ev.bind g2 (Ev.pos rfl (Ev.pos (by omega) (Ev.now _)))))), fun _ => by omega⟩
      unfold spec_l2Check.f
      exact h3 rfl
  · exact ⟨false, Ev.neg c (Ev.now _), Ev.neg c (Ev.now _), fun h => by cases h⟩
/-- Is a text an identifier? -/
noncomputable def isId (s : ByteArray) : Bool := Classical.choose (ids s)
theorem isId_spec (s : ByteArray) : Ev (fun k => spec_l2Id.f k s) (isId s) := (Classical.choose_spec (ids s)).1
theorem isId_impl (s : ByteArray) : Ev (fun k => impl_IsValidId.f k s) (isId s) := (Classical.choose_spec (ids s)).2.1
theorem isId_size (s : ByteArray) (h : isId s = true) : s.size = 8 := (Classical.choose_spec (ids s)).2.2 h

def contOk (x : S33) : Prop := isId x.f0 = true ∧ (1 ≤ x.f1 ∧ x.f1 ≤ 2) ∧ (1 ≤ x.f2 ∧ x.f2 ≤ 32000) ∧ (1 ≤ x.f3 ∧ x.f3 ≤ 3) ∧ (1 ≤ x.f4 ∧ x.f4 ≤ 9)
/-- Both tests of a container. -/
theorem container (x : S33) : ∃ b : Bool, Ev (fun k => spec_l2Good.f k x.f0 x.f1 x.f2 x.f3 x.f4) b ∧ Ev (fun k => impl_IsValidContainer.f k x.f0 x.f1 x.f2 x.f3 x.f4) b ∧ (b = true ↔ contOk x) := by
  unfold spec_l2Good.f impl_IsValidContainer.f contOk
  have hs := isId_spec x.f0
  have hi := isId_impl x.f0
  by_cases c0 : isId x.f0 = true
  · by_cases c1 : 1 ≤ x.f1 ∧ x.f1 ≤ 2
    · by_cases c2 : 1 ≤ x.f2 ∧ x.f2 ≤ 32000
      · by_cases c3 : 1 ≤ x.f3 ∧ x.f3 ≤ 3
        · exact ⟨decide (1 ≤ x.f4 ∧ x.f4 ≤ 9), Ev.bind hs (Ev.pos c0 (Ev.const (l1In_eq _ _ _) (Ev.pos (decide_eq_true c1) (Ev.const (l1In_eq _ _ _) (Ev.pos (decide_eq_true c2) (Ev.const (l1In_eq _ _ _) (Ev.pos (decide_eq_true c3) (Ev.const (l1In_eq _ _ _) (Ev.now _))))))))),
            Ev.bind hi (Ev.pos c0 (Ev.const (within_eq _ _ _) (Ev.pos (decide_eq_true c1) (Ev.const (within_eq _ _ _) (Ev.pos (decide_eq_true c3) (Ev.const (within_eq _ _ _) (Ev.pos (decide_eq_true c2) (Ev.const (within_eq _ _ _) (Ev.now _))))))))), ⟨fun h => ⟨c0, c1, c2, c3, of_decide_eq_true h⟩, fun h => decide_eq_true h.2.2.2.2⟩⟩
        · exact ⟨false, Ev.bind hs (Ev.pos c0 (Ev.const (l1In_eq _ _ _) (Ev.pos (decide_eq_true c1) (Ev.const (l1In_eq _ _ _) (Ev.pos (decide_eq_true c2) (Ev.const (l1In_eq _ _ _) (Ev.neg (fun h => c3 (of_decide_eq_true h)) (Ev.now _)))))))),
            Ev.bind hi (Ev.pos c0 (Ev.const (within_eq _ _ _) (Ev.pos (decide_eq_true c1) (Ev.const (within_eq _ _ _) (Ev.neg (fun h => c3 (of_decide_eq_true h)) (Ev.now _)))))), ⟨fun h => (by cases h), fun h => absurd h.2.2.2.1 c3⟩⟩
      · exact ⟨false, Ev.bind hs (Ev.pos c0 (Ev.const (l1In_eq _ _ _) (Ev.pos (decide_eq_true c1) (Ev.const (l1In_eq _ _ _) (Ev.neg (fun h => c2 (of_decide_eq_true h)) (Ev.now _)))))),
          Ev.bind hi (Ev.pos c0 (Ev.const (within_eq _ _ _) (Ev.pos (decide_eq_true c1) (Ev.const (within_eq _ _ _) (Ev.ite (fun _ => Ev.const (within_eq _ _ _) (Ev.neg (fun h => c2 (of_decide_eq_true h)) (Ev.now _))) (fun _ => Ev.now _)))))), ⟨fun h => (by cases h), fun h => absurd h.2.2.1 c2⟩⟩
    · exact ⟨false, Ev.bind hs (Ev.pos c0 (Ev.const (l1In_eq _ _ _) (Ev.neg (fun h => c1 (of_decide_eq_true h)) (Ev.now _)))), Ev.bind hi (Ev.pos c0 (Ev.const (within_eq _ _ _) (Ev.neg (fun h => c1 (of_decide_eq_true h)) (Ev.now _)))), ⟨fun h => (by cases h), fun h => absurd h.2.1 c1⟩⟩
  · exact ⟨false, Ev.bind hs (Ev.neg c0 (Ev.now _)), Ev.bind hi (Ev.neg c0 (Ev.now _)), ⟨fun h => (by cases h), fun h => absurd h.1 c0⟩⟩
/-- Where the first container with an Id lies: the reference's search. -/
theorem find_spec (xs : List S33) (hl : xs.length ≤ 1048577) (s : ByteArray) : ∀ d i : Nat, i + d = xs.length → ∃ t : Int, Ev (fun k => spec_l2Find.l0 k xs s i) t ∧
    ((t = -1 ∧ ∀ j : Nat, i ≤ j → j < xs.length → (rd_T33 xs j).f0 ≠ s) ∨ ∃ m : Nat, t = m ∧ i ≤ m ∧ m < xs.length ∧ (rd_T33 xs m).f0 = s ∧ ∀ j : Nat, i ≤ j → j < m → (rd_T33 xs j).f0 ≠ s) := by
  intro d
  induction d with
  | zero =>
    intro i hi
    exact ⟨-1, Ev.step (fun k => spec_l2Find.l0.eq_2 ..) (Ev.neg (by omega) (Ev.now _)), .inl ⟨rfl, fun j h1 h2 => absurd h2 (by omega)⟩⟩
  | succ d ih =>
    intro i hi
    have li : (i : Int) < xs.length := by omega
    have i0 : (0 : Int) ≤ i := by omega
    by_cases c : (rd_T33 xs i).f0 = s
    · exact ⟨i, Ev.step (fun k => spec_l2Find.l0.eq_2 ..) (Ev.pos li (Ev.pos i0 (Ev.pos (str_eq.2 c) (Ev.now _)))), .inr ⟨i, rfl, Nat.le_refl _, by omega, c, fun j h1 h2 => absurd h2 (by omega)⟩⟩
    · obtain ⟨t, h1, h2⟩ := ih (i + 1) (by omega)
      have ex : ∀ j : Nat, i ≤ j → (i + 1 ≤ j → (rd_T33 xs j).f0 ≠ s) → (rd_T33 xs j).f0 ≠ s := by
        intro j j1 h
        rcases Nat.lt_or_ge i j with q | q
        · exact h q
        · obtain rfl : j = i := by omega
          exact c
      have w1 : wrap64 ((i : Int) + 1) = ((i + 1 : Nat) : Int) := by rw [w64 (by omega) (by omega)]; rfl
      rw [← w1] at h1
      refine ⟨t, Ev.step (fun k => spec_l2Find.l0.eq_2 ..) (Ev.pos li (Ev.pos i0 (Ev.neg (fun h => c (str_eq.1 h)) h1))), ?_⟩
      rcases h2 with ⟨rfl, h2⟩ | ⟨m, rfl, m1, m2, m3, m4⟩
      · exact .inl ⟨rfl, fun j j1 j2 => ex j j1 (fun q => h2 j q j2)⟩
      · exact .inr ⟨m, rfl, by omega, m2, m3, fun j j1 j2 => ex j j1 (fun q => m4 j q j2)⟩
/-- The program's search: one that the reference's agrees with. -/
theorem find_impl (xs : List S33) (hl : xs.length ≤ 1048577) (s : ByteArray) : ∀ d i : Nat, i + d = xs.length → ∃ t : Int, Ev (fun k => slices_IndexFunc_impl_Container.l0 k xs xs.length i s) t ∧
    ((t = -1 ∧ ∀ j : Nat, i ≤ j → j < xs.length → (rd_T33 xs j).f0 ≠ s) ∨ ∃ m : Nat, t = m ∧ i ≤ m ∧ m < xs.length ∧ (rd_T33 xs m).f0 = s ∧ ∀ j : Nat, i ≤ j → j < m → (rd_T33 xs j).f0 ≠ s) := by
  intro d
  induction d with
  | zero =>
    intro i hi
    exact ⟨-1, Ev.step (fun k => slices_IndexFunc_impl_Container.l0.eq_2 ..) (Ev.neg (by omega) (Ev.now _)), .inl ⟨rfl, fun j h1 h2 => absurd h2 (by omega)⟩⟩
  | succ d ih =>
    intro i hi
    have li : (i : Int) < xs.length := by omega
    have i0 : (0 : Int) ≤ i := by omega
    by_cases c : (rd_T33 xs i).f0 = s
    · refine ⟨i, Ev.step (fun k => slices_IndexFunc_impl_Container.l0.eq_2 ..) (Ev.pos li (Ev.pos i0 (Ev.pos li (Ev.const (a := true) ?_ (Ev.pos rfl (Ev.now _)))))), .inr ⟨i, rfl, Nat.le_refl _, by omega, c, fun j h1 h2 => absurd h2 (by omega)⟩⟩
      unfold impl_indexOf_1.f
      rw [c]
      simp
    · obtain ⟨t, h1, h2⟩ := ih (i + 1) (by omega)
      have ex : ∀ j : Nat, i ≤ j → (i + 1 ≤ j → (rd_T33 xs j).f0 ≠ s) → (rd_T33 xs j).f0 ≠ s := by
        intro j j1 h
        rcases Nat.lt_or_ge i j with q | q
        · exact h q
        · obtain rfl : j = i := by omega
          exact c
      have w1 : wrap64 ((i : Int) + 1) = ((i + 1 : Nat) : Int) := by rw [w64 (by omega) (by omega)]; rfl
      rw [← w1] at h1
      refine ⟨t, Ev.step (fun k => slices_IndexFunc_impl_Container.l0.eq_2 ..) (Ev.pos li (Ev.pos i0 (Ev.pos li (Ev.const (a := false) ?_ (Ev.neg (fun h => by cases h) h1))))), ?_⟩
      · unfold impl_indexOf_1.f
        exact congrArg some (beq_eq_false_iff_ne.2 (fun h => c (str_eq.1 h)))
      rcases h2 with ⟨rfl, h2⟩ | ⟨m, rfl, m1, m2, m3, m4⟩
      · exact .inl ⟨rfl, fun j j1 j2 => ex j j1 (fun q => h2 j q j2)⟩
      · exact .inr ⟨m, rfl, by omega, m2, m3, fun j j1 j2 => ex j j1 (fun q => m4 j q j2)⟩
/-- A list of containers with Ids of their own. -/
def vC (xs : List S33) (i : Nat) : Prop := contOk (rd_T33 xs i) ∧ ∀ j : Nat, j < i → (rd_T33 xs j).f0 ≠ (rd_T33 xs i).f0
def Conts (xs : List S33) : Prop := (xs.length : Int) ≤ 12 ∧ ∀ i : Nat, i < xs.length → vC xs i
theorem rd_take (xs : List S33) (n j : Nat) (h : j < n) : rd_T33 (xs.take n) (j : Int) = rd_T33 xs j := by
  unfold rd_T33
  rw [Int.toNat_natCast, List.getD_eq_getElem?_getD, List.getD_eq_getElem?_getD, List.getElem?_take_of_lt h]
theorem contsSpec (xs : List S33) (hl : xs.length ≤ 1048577) : ∀ d i : Nat, i + d = xs.length → (∀ j : Nat, j < i → vC xs j) → ∃ b : Bool, Ev (fun k => spec_l2List.l0 k xs i) b ∧ (b = true ↔ Conts xs) := by
  intro d
  induction d with
  | zero =>
    intro i hi hv
    refine ⟨decide ((xs.length : Int) ≤ 12), Ev.step (fun k => spec_l2List.l0.eq_2 ..) (Ev.neg (by omega) (Ev.step (fun k => spec_l2List.j1.eq_2 ..) (Ev.neg (by simp) (Ev.now _)))), ?_⟩
    exact ⟨fun h => ⟨of_decide_eq_true h, fun j hj => hv j (by omega)⟩, fun h => decide_eq_true h.1⟩
  | succ d ih =>
    intro i hi hv
    have li : (i : Int) < xs.length := by omega
    have i0 : (0 : Int) ≤ i := by omega
    by_cases c12 : (i : Int) ≤ 12
    · obtain ⟨b, g1, _, g3⟩ := container (rd_T33 xs i)
      obtain ⟨t, t1, t2⟩ := find_spec xs hl (rd_T33 xs i).f0 xs.length 0 (by omega)
      have pre : ∀ r, Ev _ r → Ev (fun k => spec_l2List.l0 k xs i) r := fun r hr => Ev.step (fun k => spec_l2List.l0.eq_2 ..) (Ev.pos li (Ev.step (fun k => spec_l2List.j1.eq_2 ..) (Ev.pos (decide_eq_true c12) (Ev.pos i0 (Ev.pos li (Ev.bind g1 hr))))))
      by_cases cb : b = true
      · by_cases ct : t = i
        · have vi : vC xs i := by
            refine ⟨g3.1 cb, fun j hj => ?_⟩
            rcases t2 with ⟨e, _⟩ | ⟨m, e, _, _, _, m4⟩
            · omega
            · exact m4 j (by omega) (by omega)
          obtain ⟨r, r1, r2⟩ := ih (i + 1) (by omega) (fun j hj => by
            rcases Nat.lt_or_ge j i with q | q
            · exact hv j q
            · obtain rfl : j = i := by omega
              exact vi)
          have w1 : wrap64 ((i : Int) + 1) = ((i + 1 : Nat) : Int) := by rw [w64 (by omega) (by omega)]; rfl
          rw [← w1] at r1
          exact ⟨r, pre r (Ev.pos cb (Ev.bind t1 (Ev.pos ct r1))), r2⟩
        · refine ⟨false, pre _ (Ev.pos cb (Ev.bind t1 (Ev.neg ct (Ev.now _)))), ⟨fun h => (by cases h), fun h => ?_⟩⟩
          exfalso
          have vi := h.2 i (by omega)
          rcases t2 with ⟨_, m4⟩ | ⟨m, rfl, _, _, m3, m4⟩
          · exact m4 i (by omega) (by omega) rfl
          · rcases Nat.lt_or_ge m i with q | q
            · exact vi.2 m q m3
            · rcases Nat.lt_or_ge i m with q' | q'
              · exact m4 i (by omega) q' rfl
              · exact ct (by omega)
      · exact ⟨false, pre _ (Ev.neg cb (Ev.now _)), ⟨fun h => (by cases h), fun h => absurd (g3.2 (h.2 i (by omega)).1) cb⟩⟩
    · refine ⟨false, Ev.step (fun k => spec_l2List.l0.eq_2 ..) (Ev.pos li (Ev.step (fun k => spec_l2List.j1.eq_2 ..) (Ev.neg (fun h => c12 (of_decide_eq_true h)) (Ev.eq (Ev.now _) ?_)))), ⟨fun h => (by cases h), fun h => absurd h.1 (by omega)⟩⟩
      exact decide_eq_false (by omega)
theorem contsImpl (xs : List S33) (hl : xs.length ≤ 1048577) : ∀ d i : Nat, i + d = xs.length → (∀ j : Nat, j < i → vC xs j) → ∃ b : Bool, Ev (fun k => impl_IsValidContainers.l0 k xs xs xs.length i) b ∧ (b = true ↔ Conts xs) := by
  intro d
  induction d with
  | zero =>
    intro i hi hv
    refine ⟨decide ((xs.length : Int) ≤ 12), Ev.step (fun k => impl_IsValidContainers.l0.eq_2 ..) (Ev.neg (by omega) (Ev.now _)), ?_⟩
    exact ⟨fun h => ⟨of_decide_eq_true h, fun j hj => hv j (by omega)⟩, fun h => decide_eq_true h.1⟩
  | succ d ih =>
    intro i hi hv
    have li : (i : Int) < xs.length := by omega
    have i0 : (0 : Int) ≤ i := by omega
    obtain ⟨b, _, g1, g3⟩ := container (rd_T33 xs i)
    have ln : (xs.take i).length = i := by rw [List.length_take]; omega
    obtain ⟨t, t1, t2⟩ := find_impl (xs.take i) (by omega) (rd_T33 xs i).f0 i 0 (by omega)
    have F : Ev (fun k => impl_indexOf.f k (xs.take ((i : Int)).toNat) (rd_T33 xs i).f0) t := by
      unfold impl_indexOf.f slices_IndexFunc_impl_Container.f
      rw [Int.toNat_natCast]
      exact Ev.bind t1 (Ev.now _)
    have pre : ∀ r, Ev _ r → Ev (fun k => impl_IsValidContainers.l0 k xs xs xs.length i) r := fun r hr => Ev.step (fun k => impl_IsValidContainers.l0.eq_2 ..) (Ev.pos li (Ev.pos i0 (Ev.pos li (Ev.bind g1 hr))))
    by_cases cb : b = true
    · by_cases ct : t ≥ 0
      · refine ⟨false, pre _ (Ev.pos cb (Ev.pos (by omega) (Ev.bind F (Ev.pos ct (Ev.now _))))), ⟨fun h => (by cases h), fun h => ?_⟩⟩
        exfalso
        rcases t2 with ⟨e, _⟩ | ⟨m, _, _, m2, m3, _⟩
        · omega
        · rw [rd_take xs i m (by omega)] at m3
          exact (h.2 i (by omega)).2 m (by omega) m3
      · have vi : vC xs i := by
          refine ⟨g3.1 cb, fun j hj => ?_⟩
          rcases t2 with ⟨_, m4⟩ | ⟨m, e, _⟩
          · have := m4 j (by omega) (by omega)
            rwa [rd_take xs i j hj] at this
          · omega
        obtain ⟨r, r1, r2⟩ := ih (i + 1) (by omega) (fun j hj => by
          rcases Nat.lt_or_ge j i with q | q
          · exact hv j q
          · obtain rfl : j = i := by omega
            exact vi)
        have w1 : wrap64 ((i : Int) + 1) = ((i + 1 : Nat) : Int) := by rw [w64 (by omega) (by omega)]; rfl
        rw [← w1] at r1
        exact ⟨r, pre r (Ev.pos cb (Ev.pos (by omega) (Ev.bind F (Ev.neg ct r1)))), r2⟩
    · exact ⟨false, pre _ (Ev.neg cb (Ev.now _)), ⟨fun h => (by cases h), fun h => absurd (g3.2 (h.2 i (by omega)).1) cb⟩⟩
/-- Both tests of a list. -/
theorem conts (xs : List S33) (hl : xs.length ≤ 1048577) : ∃ b : Bool, Ev (fun k => spec_l2List.f k xs) b ∧ Ev (fun k => impl_IsValidContainers.f k xs) b ∧ (b = true ↔ Conts xs) := by
  obtain ⟨b, h1, h2⟩ := contsSpec xs hl xs.length 0 (by omega) (fun j hj => by omega)
  obtain ⟨b', h1', h2'⟩ := contsImpl xs hl xs.length 0 (by omega) (fun j hj => by omega)
  have e : b' = b := by
    cases b <;> cases b' <;> simp_all
  subst e
  exact ⟨_, h1, h1', h2⟩

def sL (xs : List S33) (lo : List Int) (w : Int) : Nat → Int
  | 0 => 0
  | n + 1 => if rd lo n = w then sL xs lo w n + (rd_T33 xs n).f1 else sL xs lo w n
def sW (xs : List S33) (lo : List Int) (w : Int) : Nat → Int
  | 0 => 0
  | n + 1 => if rd lo n = w then sW xs lo w n + (rd_T33 xs n).f2 else sW xs lo w n
/-- The bounds that the sums need. -/
def Small (xs : List S33) : Prop := xs.length ≤ 12 ∧ ∀ i : Nat, i < xs.length → (0 ≤ (rd_T33 xs i).f1 ∧ (rd_T33 xs i).f1 ≤ 2) ∧ (0 ≤ (rd_T33 xs i).f2 ∧ (rd_T33 xs i).f2 ≤ 32000)
theorem small (xs : List S33) (h : Conts xs) : Small xs := ⟨by have := h.1; omega, fun i hi => by
  have := (h.2 i hi).1
  exact ⟨⟨by have := this.2.1.1; omega, this.2.1.2⟩, by have := this.2.2.1.1; omega, this.2.2.1.2⟩⟩
theorem sL_bd (xs : List S33) (hs : Small xs) (lo : List Int) (w : Int) (n : Nat) (hn : n ≤ xs.length) : 0 ≤ sL xs lo w n ∧ sL xs lo w n ≤ 2 * n := by
  induction n with
  | zero => exact ⟨Int.le_refl _, Int.le_refl _⟩
  | succ n ih =>
    have h1 := ih (by omega)
    have h2 := (hs.2 n (by omega)).1
    unfold sL
    generalize sL xs lo w n = a at *
    generalize (rd_T33 xs n).f1 = b at *
    split <;> omega
theorem sW_bd (xs : List S33) (hs : Small xs) (lo : List Int) (w : Int) (n : Nat) (hn : n ≤ xs.length) : 0 ≤ sW xs lo w n ∧ sW xs lo w n ≤ 32000 * n := by
  induction n with
  | zero => exact ⟨Int.le_refl _, Int.le_refl _⟩
  | succ n ih =>
    have h1 := ih (by omega)
    have h2 := (hs.2 n (by omega)).2
    unfold sW
    generalize sW xs lo w n = a at *
    generalize (rd_T33 xs n).f2 = b at *
    split <;> omega
theorem sums (xs : List S33) (hs : Small xs) (lo : List Int) (h : lo.length ≤ xs.length) (w : Int) : Ev (fun k => spec_l19Sums.f k xs lo w) (sL xs lo w lo.length, sW xs lo w lo.length) := by
  unfold spec_l19Sums.f
  have main : ∀ d i : Nat, i + d = lo.length → Ev (fun k => spec_l19Sums.l0 k xs lo w (sL xs lo w i) (sW xs lo w i) i) (sL xs lo w lo.length, sW xs lo w lo.length) := by
    intro d
    induction d with
    | zero =>
      intro i hi
      obtain rfl : i = lo.length := by omega
      exact Ev.step (fun k => spec_l19Sums.l0.eq_2 ..) (Ev.neg (by omega) (Ev.now _))
    | succ d ih =>
      intro i hi
      have li : (i : Int) < lo.length := by omega
      have lx : (i : Int) < xs.length := by omega
      have l12 : xs.length ≤ 12 := hs.1
      have i0 : (0 : Int) ≤ i := by omega
      have w1 : wrap64 ((i : Int) + 1) = ((i + 1 : Nat) : Int) := by rw [w64 (by omega) (by omega)]; rfl
      have h1 := sL_bd xs hs lo w i (by omega)
      have h2 := sW_bd xs hs lo w i (by omega)
      have h3 := hs.2 i (by omega)
      have := ih (i + 1) (by omega)
      refine Ev.step (fun k => spec_l19Sums.l0.eq_2 ..) (Ev.pos li (Ev.pos i0 ?_))
      rw [w1]
      rw [show sL xs lo w (i + 1) = if rd lo i = w then sL xs lo w i + (rd_T33 xs i).f1 else sL xs lo w i from rfl, show sW xs lo w (i + 1) = if rd lo i = w then sW xs lo w i + (rd_T33 xs i).f2 else sW xs lo w i from rfl] at this
      clear w1
      by_cases c : rd lo i = w
      · rw [if_pos c, if_pos c] at this
        refine Ev.pos c (Ev.pos lx ?_)
        generalize sL xs lo w i = a at *
        generalize sW xs lo w i = b at *
        generalize (rd_T33 xs i).f1 = p at *
        generalize (rd_T33 xs i).f2 = q at *
        have e1 : wrap64 (a + p) = a + p := w64 (by omega) (by omega)
        have e2 : wrap64 (b + q) = b + q := w64 (by omega) (by omega)
        rw [e1, e2]
        exact this
      · rw [if_neg c, if_neg c] at this
        exact Ev.neg c this
  exact main lo.length 0 (by omega)
def Fit (ts : List S60) (xs : List S33) (lo : List Int) : Prop := ∀ j : Nat, j < ts.length → sL xs lo j lo.length ≤ (rd_T60 ts j).f0 ∧ sW xs lo j lo.length ≤ (rd_T60 ts j).f1
theorem fits (ts : List S60) (ht : ts.length ≤ 1048577) (xs : List S33) (hs : Small xs) (lo : List Int) (h : lo.length ≤ xs.length) : ∃ b : Bool, Ev (fun k => spec_l19Fits.f k ts xs lo) b ∧ (b = true ↔ Fit ts xs lo) := by
  unfold spec_l19Fits.f
  have main : ∀ d i : Nat, i + d = ts.length → ∃ b : Bool, Ev (fun k => spec_l19Fits.l0 k ts xs lo i) b ∧ (b = true ↔ ∀ j : Nat, i ≤ j → j < ts.length → sL xs lo j lo.length ≤ (rd_T60 ts j).f0 ∧ sW xs lo j lo.length ≤ (rd_T60 ts j).f1) := by
    intro d
    induction d with
    | zero =>
      intro i hi
      exact ⟨true, Ev.step (fun k => spec_l19Fits.l0.eq_2 ..) (Ev.neg (by omega) (Ev.now _)), ⟨fun _ j h1 h2 => absurd h2 (by omega), fun _ => rfl⟩⟩
    | succ d ih =>
      intro i hi
      have li : (i : Int) < ts.length := by omega
      have i0 : (0 : Int) ≤ i := by omega
      have w1 : wrap64 ((i : Int) + 1) = ((i + 1 : Nat) : Int) := by rw [w64 (by omega) (by omega)]; rfl
      obtain ⟨b, h1, h2⟩ := ih (i + 1) (by omega)
      rw [← w1] at h1
      have pre : ∀ r, Ev _ r → Ev (fun k => spec_l19Fits.l0 k ts xs lo i) r := fun r hr => Ev.step (fun k => spec_l19Fits.l0.eq_2 ..) (Ev.pos li (Ev.bind (sums xs hs lo h i) (Ev.pos i0 hr)))
      by_cases c1 : sL xs lo i lo.length ≤ (rd_T60 ts i).f0
      · by_cases c2 : sW xs lo i lo.length ≤ (rd_T60 ts i).f1
        · refine ⟨b, pre _ (Ev.neg (Int.not_lt.2 c1) (Ev.neg (Int.not_lt.2 c2) h1)), h2.trans ⟨fun q j j1 j2 => ?_, fun q j j1 j2 => q j (by omega) j2⟩⟩
          rcases Nat.lt_or_ge i j with g | g
          · exact q j g j2
          · obtain rfl : j = i := by omega
            exact ⟨c1, c2⟩
        · exact ⟨false, pre _ (Ev.neg (Int.not_lt.2 c1) (Ev.pos (Int.not_le.1 c2) (Ev.now _))), ⟨fun q => (by cases q), fun q => absurd (q i (Nat.le_refl _) (by omega)).2 c2⟩⟩
      · exact ⟨false, pre _ (Ev.pos (Int.not_le.1 c1) (Ev.now _)), ⟨fun q => (by cases q), fun q => absurd (q i (Nat.le_refl _) (by omega)).1 c1⟩⟩
  obtain ⟨b, h1, h2⟩ := main ts.length 0 (by omega)
  exact ⟨b, h1, h2.trans ⟨fun q j hj => q j (by omega) hj, fun q j _ hj => q j hj⟩⟩
/-- Places that are wagons of the train, or -1. -/
def On (n : Nat) (lo : List Int) : Prop := ∀ j : Nat, j < lo.length → -1 ≤ rd lo j ∧ rd lo j < (n : Int)
theorem rdset_self (ys : List Int) (w v : Int) (h0 : 0 ≤ w) (h : w < (ys.length : Int)) : rd (ys.set w.toNat v) w = v := by
  unfold rd
  rw [List.getD_eq_getElem?_getD, List.getElem?_set_self (by omega)]
  rfl
theorem rdset_ne (ys : List Int) (w j v : Int) (h0 : 0 ≤ w) (h1 : 0 ≤ j) (h : j ≠ w) : rd (ys.set w.toNat v) j = rd ys j := by
  unfold rd
  rw [List.getD_eq_getElem?_getD, List.getElem?_set_ne (by omega), ← List.getD_eq_getElem?_getD]
theorem rd_rep (n : Nat) (j : Int) : rd (List.replicate n 0) j = 0 := by
  unfold rd
  rw [List.getD_eq_getElem?_getD, List.getElem?_replicate]
  split <;> rfl
theorem usage (ts : List S60) (ht : ts.length ≤ 1048577) (xs : List S33) (hs : Small xs) (lo : List Int) (h : lo.length ≤ xs.length) (ho : On ts.length lo) : ∃ a b : List Int, a.length = ts.length ∧ b.length = ts.length ∧
    (∀ w : Nat, w < ts.length → rd a w = sL xs lo w lo.length ∧ rd b w = sW xs lo w lo.length) ∧ Ev (fun k => impl_usage.f k ts xs lo) (a, b) := by
  have main : ∀ d i : Nat, i + d = lo.length → ∀ p q : List Int, p.length = ts.length → q.length = ts.length → (∀ w : Nat, w < ts.length → rd p w = sL xs lo w i ∧ rd q w = sW xs lo w i) →
      ∃ a b : List Int, a.length = ts.length ∧ b.length = ts.length ∧ (∀ w : Nat, w < ts.length → rd a w = sL xs lo w lo.length ∧ rd b w = sW xs lo w lo.length) ∧ Ev (fun k => impl_usage.l0 k xs p q lo lo.length i) (a, b) := by
    intro d
    induction d with
    | zero =>
      intro i hi p q hp hq hr
      obtain rfl : i = lo.length := by omega
      exact ⟨p, q, hp, hq, hr, Ev.step (fun k => impl_usage.l0.eq_2 ..) (Ev.neg (by omega) (Ev.now _))⟩
    | succ d ih =>
      intro i hi p q hp hq hr
      have li : (i : Int) < lo.length := by omega
      have lx : (i : Int) < xs.length := by omega
      have l12 : xs.length ≤ 12 := hs.1
      have i0 : (0 : Int) ≤ i := by omega
      have w1 : wrap64 ((i : Int) + 1) = ((i + 1 : Nat) : Int) := by rw [w64 (by omega) (by omega)]; rfl
      have hoi := ho i (by omega)
      have pre : ∀ r, Ev _ r → Ev (fun k => impl_usage.l0 k xs p q lo lo.length i) r := fun r hr => Ev.step (fun k => impl_usage.l0.eq_2 ..) (Ev.pos li (Ev.pos i0 (Ev.pos li hr)))
      by_cases c : rd lo i ≥ 0
      · have lp : rd lo i < (p.length : Int) := by rw [hp]; exact hoi.2
        have lq : rd lo i < (q.length : Int) := by rw [hq]; exact hoi.2
        have e : ((rd lo i).toNat : Int) = rd lo i := Int.toNat_of_nonneg c
        have r1 := hr (rd lo i).toNat (by omega)
        rw [e] at r1
        have b1 := sL_bd xs hs lo (rd lo i) i (by omega)
        have b2 := sW_bd xs hs lo (rd lo i) i (by omega)
        have h3 := hs.2 i (by omega)
        have e1 : wrap64 (rd p (rd lo i) + (rd_T33 xs i).f1) = sL xs lo (rd lo i) i + (rd_T33 xs i).f1 := by
          rw [r1.1]
          generalize sL xs lo (rd lo i) i = a at *
          generalize (rd_T33 xs i).f1 = b at *
          exact w64 (by omega) (by omega)
        have e2 : wrap64 (rd q (rd lo i) + (rd_T33 xs i).f2) = sW xs lo (rd lo i) i + (rd_T33 xs i).f2 := by
          rw [r1.2]
          generalize sW xs lo (rd lo i) i = a at *
          generalize (rd_T33 xs i).f2 = b at *
          exact w64 (by omega) (by omega)
        obtain ⟨a, b, a1, a2, a3, a4⟩ := ih (i + 1) (by omega) (p.set (rd lo i).toNat (sL xs lo (rd lo i) i + (rd_T33 xs i).f1)) (q.set (rd lo i).toNat (sW xs lo (rd lo i) i + (rd_T33 xs i).f2)) (by simpa using hp) (by simpa using hq) (fun w hw => by
          have := hr w hw
          rw [show sL xs lo w (i + 1) = if rd lo i = w then sL xs lo w i + (rd_T33 xs i).f1 else sL xs lo w i from rfl, show sW xs lo w (i + 1) = if rd lo i = w then sW xs lo w i + (rd_T33 xs i).f2 else sW xs lo w i from rfl]
          by_cases g : rd lo i = w
          · rw [if_pos g, if_pos g, ← g]
            exact ⟨rdset_self _ _ _ c lp, rdset_self _ _ _ c lq⟩
          · rw [if_neg g, if_neg g, rdset_ne _ _ _ _ c (by omega) (fun h => g h.symm), rdset_ne _ _ _ _ c (by omega) (fun h => g h.symm)]
            exact this)
        rw [← w1, ← e1, ← e2] at a4
        exact ⟨a, b, a1, a2, a3, pre _ (Ev.pos c (Ev.pos c (Ev.pos lp (Ev.pos lx (Ev.pos lq a4)))))⟩
      · obtain ⟨a, b, a1, a2, a3, a4⟩ := ih (i + 1) (by omega) p q hp hq (fun w hw => by
          have := hr w hw
          rw [show sL xs lo w (i + 1) = if rd lo i = w then sL xs lo w i + (rd_T33 xs i).f1 else sL xs lo w i from rfl, show sW xs lo w (i + 1) = if rd lo i = w then sW xs lo w i + (rd_T33 xs i).f2 else sW xs lo w i from rfl]
          have g : ¬ rd lo i = w := by omega
          rw [if_neg g, if_neg g]
          exact this)
        rw [← w1] at a4
        exact ⟨a, b, a1, a2, a3, pre _ (Ev.neg c a4)⟩
  obtain ⟨a, b, a1, a2, a3, a4⟩ := main lo.length 0 (by omega) (List.replicate ts.length 0) (List.replicate ts.length 0) (by simp) (by simp) (fun w _ => ⟨rd_rep _ _, rd_rep _ _⟩)
  refine ⟨a, b, a1, a2, a3, ?_⟩
  unfold impl_usage.f
  refine Ev.pos (by omega) (Ev.pos (by omega) ?_)
  rw [Int.toNat_natCast]
  exact a4
theorem isLoaded (ts : List S60) (ht : ts.length ≤ 1048577) (xs : List S33) (hs : Small xs) (lo : List Int) (h : lo.length ≤ xs.length) (ho : On ts.length lo) : ∃ b : Bool, Ev (fun k => impl_isLoaded.f k ts xs lo) b ∧ (b = true ↔ Fit ts xs lo) := by
  obtain ⟨p, q, hp, hq, hr, hu⟩ := usage ts ht xs hs lo h ho
  have main : ∀ d i : Nat, i + d = ts.length → ∃ b : Bool, Ev (fun k => impl_isLoaded.l0 k p q ts ts.length i) b ∧ (b = true ↔ ∀ j : Nat, i ≤ j → j < ts.length → sL xs lo j lo.length ≤ (rd_T60 ts j).f0 ∧ sW xs lo j lo.length ≤ (rd_T60 ts j).f1) := by
    intro d
    induction d with
    | zero =>
      intro i hi
      exact ⟨true, Ev.step (fun k => impl_isLoaded.l0.eq_2 ..) (Ev.neg (by omega) (Ev.now _)), ⟨fun _ j h1 h2 => absurd h2 (by omega), fun _ => rfl⟩⟩
    | succ d ih =>
      intro i hi
      have li : (i : Int) < ts.length := by omega
      have lp : (i : Int) < p.length := by omega
      have lq : (i : Int) < q.length := by omega
      have i0 : (0 : Int) ≤ i := by omega
      have w1 : wrap64 ((i : Int) + 1) = ((i + 1 : Nat) : Int) := by rw [w64 (by omega) (by omega)]; rfl
      obtain ⟨b, h1, h2⟩ := ih (i + 1) (by omega)
      rw [← w1] at h1
      have e := hr i (by omega)
      have pre : ∀ r, Ev _ r → Ev (fun k => impl_isLoaded.l0 k p q ts ts.length i) r := fun r hr => Ev.step (fun k => impl_isLoaded.l0.eq_2 ..) (Ev.pos li (Ev.pos i0 (Ev.pos li (Ev.pos lp hr))))
      rw [e.1] at pre
      rw [e.2] at pre
      by_cases c1 : sL xs lo i lo.length ≤ (rd_T60 ts i).f0
      · by_cases c2 : sW xs lo i lo.length ≤ (rd_T60 ts i).f1
        · refine ⟨b, pre _ (Ev.neg (Int.not_lt.2 c1) (Ev.pos lq (Ev.neg (Int.not_lt.2 c2) h1))), h2.trans ⟨fun q j j1 j2 => ?_, fun q j j1 j2 => q j (by omega) j2⟩⟩
          rcases Nat.lt_or_ge i j with g | g
          · exact q j g j2
          · obtain rfl : j = i := by omega
            exact ⟨c1, c2⟩
        · exact ⟨false, pre _ (Ev.neg (Int.not_lt.2 c1) (Ev.pos lq (Ev.pos (Int.not_le.1 c2) (Ev.now _)))), ⟨fun q => (by cases q), fun q => absurd (q i (Nat.le_refl _) (by omega)).2 c2⟩⟩
      · exact ⟨false, pre _ (Ev.pos (Int.not_le.1 c1) (Ev.now _)), ⟨fun q => (by cases q), fun q => absurd (q i (Nat.le_refl _) (by omega)).1 c1⟩⟩
  obtain ⟨b, h1, h2⟩ := main ts.length 0 (by omega)
  exact ⟨b, by unfold impl_isLoaded.f; exact Ev.bind hu h1, h2.trans ⟨fun q j hj => q j (by omega) hj, fun q j _ hj => q j hj⟩⟩

def Load (ts : List S60) (xs : List S33) (lo : List Int) : Prop := Train ts ∧ Conts xs ∧ lo.length = xs.length ∧ On ts.length lo ∧ Fit ts xs lo
theorem goodLoop (ts : List S60) (ht : ts.length ≤ 1048577) (xs : List S33) (hs : Small xs) (lo : List Int) (h : lo.length ≤ xs.length) : ∀ d i : Nat, i + d = lo.length → ∃ b : Bool, Ev (fun k => spec_l19Good.l0 k ts xs lo i) b ∧ (b = true ↔ (∀ j : Nat, i ≤ j → j < lo.length → -1 ≤ rd lo j ∧ rd lo j < (ts.length : Int)) ∧ Fit ts xs lo) := by
  intro d
  induction d with
  | zero =>
    intro i hi
    obtain ⟨b, b1, b2⟩ := fits ts ht xs hs lo h
    exact ⟨b, Ev.step (fun k => spec_l19Good.l0.eq_2 ..) (Ev.neg (by omega) (Ev.bind b1 (Ev.now _))), b2.trans ⟨fun q => ⟨fun j h1 h2 => absurd h2 (by omega), q⟩, fun q => q.2⟩⟩
  | succ d ih =>
    intro i hi
    have li : (i : Int) < lo.length := by omega
    have l12 : xs.length ≤ 12 := hs.1
    have i0 : (0 : Int) ≤ i := by omega
    have wt : wrap64 ((ts.length : Int) - 1) = (ts.length : Int) - 1 := w64 (by omega) (by omega)
    have w1 : wrap64 ((i : Int) + 1) = ((i + 1 : Nat) : Int) := by rw [w64 (by omega) (by omega)]; rfl
    obtain ⟨b, h1, h2⟩ := ih (i + 1) (by omega)
    rw [← w1] at h1
    have pre : ∀ r, Ev _ r → Ev (fun k => spec_l19Good.l0 k ts xs lo i) r := fun r hr => Ev.step (fun k => spec_l19Good.l0.eq_2 ..) (Ev.pos li (Ev.pos i0 (Ev.const (l1In_eq _ _ _) hr)))
    rw [wt] at pre
    by_cases c : -1 ≤ rd lo i ∧ rd lo i ≤ (ts.length : Int) - 1
    · refine ⟨b, pre _ (Ev.pos (decide_eq_true c) h1), h2.trans ⟨fun q => ⟨fun j j1 j2 => ?_, q.2⟩, fun q => ⟨fun j j1 j2 => q.1 j (by omega) j2, q.2⟩⟩⟩
      rcases Nat.lt_or_ge i j with g | g
      · exact q.1 j g j2
      · obtain rfl : j = i := by omega
        exact ⟨c.1, by omega⟩
    · refine ⟨false, pre _ (Ev.neg (fun q => c (of_decide_eq_true q)) (Ev.now _)), ⟨fun q => (by cases q), fun q => absurd (q.1 i (Nat.le_refl _) (by omega)) (fun z => c ⟨z.1, by omega⟩)⟩⟩
theorem off (ts : List S60) (ht : ts.length ≤ 1048577) (lo : List Int) (hl : lo.length ≤ 1048577) : ∀ d i : Nat, i + d = lo.length → ∃ t : Int, Ev (fun k => slices_IndexFunc_int.l0 k lo lo.length i ts) t ∧ (t ≥ 0 ↔ ¬ ∀ j : Nat, i ≤ j → j < lo.length → -1 ≤ rd lo j ∧ rd lo j < (ts.length : Int)) := by
  intro d
  induction d with
  | zero =>
    intro i hi
    exact ⟨-1, Ev.step (fun k => slices_IndexFunc_int.l0.eq_2 ..) (Ev.neg (by omega) (Ev.now _)), ⟨fun h => absurd h (by omega), fun h => absurd (fun j h1 h2 => absurd h2 (by omega)) h⟩⟩
  | succ d ih =>
    intro i hi
    have li : (i : Int) < lo.length := by omega
    have i0 : (0 : Int) ≤ i := by omega
    have wt : wrap64 ((ts.length : Int) - 1) = (ts.length : Int) - 1 := w64 (by omega) (by omega)
    have w1 : wrap64 ((i : Int) + 1) = ((i + 1 : Nat) : Int) := by rw [w64 (by omega) (by omega)]; rfl
    obtain ⟨t, h1, h2⟩ := ih (i + 1) (by omega)
    rw [← w1] at h1
    have no : impl_IsValidLoading_1.f (rd lo i) ts = some (!decide (-1 ≤ rd lo i ∧ rd lo i ≤ (ts.length : Int) - 1)) := by
      unfold impl_IsValidLoading_1.f
      rw [wt, within_eq]
      rfl
    have pre : ∀ r, Ev _ r → Ev (fun k => slices_IndexFunc_int.l0 k lo lo.length i ts) r := fun r hr => Ev.step (fun k => slices_IndexFunc_int.l0.eq_2 ..) (Ev.pos li (Ev.pos i0 (Ev.pos li (Ev.const no hr))))
    by_cases c : -1 ≤ rd lo i ∧ rd lo i ≤ (ts.length : Int) - 1
    · refine ⟨t, pre _ (Ev.neg ?_ h1), h2.trans ⟨fun q z => q (fun j j1 j2 => z j (by omega) j2), fun q z => q (fun j j1 j2 => ?_)⟩⟩
      · rw [decide_eq_true c]
        exact fun h => by cases h
      · rcases Nat.lt_or_ge i j with g | g
        · exact z j g j2
        · obtain rfl : j = i := by omega
          exact ⟨c.1, by omega⟩
    · refine ⟨i, pre _ (Ev.pos ?_ (Ev.now _)), ⟨fun _ z => c ?_, fun _ => by omega⟩⟩
      · rw [decide_eq_false c]
        rfl
      · have := z i (Nat.le_refl _) (by omega)
        exact ⟨this.1, by omega⟩
/-- Both tests of a loading. -/
theorem good (ts : List S60) (ht : ts.length ≤ 1048577) (xs : List S33) (hx : xs.length ≤ 1048577) (lo : List Int) (hl : lo.length ≤ 1048577) : ∃ b : Bool, Ev (fun k => spec_l19Good.f k ts xs lo) b ∧ Ev (fun k => impl_IsValidLoading.f k ts xs lo) b ∧ (b = true ↔ Load ts xs lo) := by
  unfold spec_l19Good.f impl_IsValidLoading.f
  obtain ⟨p, p1, p2, p3⟩ := train ts ht
  obtain ⟨q, q1, q2, q3⟩ := conts xs hx
  have sj : ∀ z : Bool, z = true → Ev (fun k => spec_l19Good.j0 k ts xs lo z) false := fun z hz => Ev.step (fun k => spec_l19Good.j0.eq_2 ..) (Ev.pos hz (Ev.now _))
  have ij : ∀ z : Bool, z = true → Ev (fun k => impl_IsValidLoading.j0 k xs lo z ts) false := fun z hz => Ev.step (fun k => impl_IsValidLoading.j0.eq_2 ..) (Ev.pos hz (Ev.now _))
  by_cases cp : p = true
  · by_cases cq : q = true
    · by_cases cl : (lo.length : Int) = (xs.length : Int)
      · have hs := small xs (q3.1 cq)
        have hle : lo.length ≤ xs.length := by omega
        have ne : ((lo.length : Int) != (xs.length : Int)) = false := by rw [cl]; simp
        obtain ⟨b, b1, b2⟩ := goodLoop ts ht xs hs lo hle lo.length 0 (by omega)
        obtain ⟨t, t1, t2⟩ := off ts ht lo hl lo.length 0 (by omega)
        have S : Ev (fun k => spec_l19Good.j0 k ts xs lo ((lo.length : Int) != (xs.length : Int))) b := Ev.step (fun k => spec_l19Good.j0.eq_2 ..) (Ev.neg (by rw [ne]; exact fun h => by cases h) b1)
        have F : Ev (fun k => slices_ContainsFunc_int.f k lo ts) (decide (t ≥ 0)) := by
          unfold slices_ContainsFunc_int.f slices_IndexFunc_int.f
          exact Ev.bind t1 (Ev.now _)
        have I0 : ∀ r, Ev _ r → Ev (fun k => impl_IsValidLoading.j0 k xs lo ((lo.length : Int) != (xs.length : Int)) ts) r := fun r hr => Ev.step (fun k => impl_IsValidLoading.j0.eq_2 ..) (Ev.neg (by rw [ne]; exact fun h => by cases h) (Ev.bind F hr))
        by_cases co : On ts.length lo
        · have ct : ¬ t ≥ 0 := fun h => t2.1 h (fun j _ hj => co j hj)
          obtain ⟨c, c1, c2⟩ := isLoaded ts ht xs hs lo hle co
          have e : b = c := by
            have : b = true ↔ c = true := b2.trans ⟨fun z => c2.2 z.2, fun z => ⟨fun j _ hj => co j hj, c2.1 z⟩⟩
            cases b <;> cases c <;> simp_all
          subst e
          exact ⟨b, Ev.bind p1 (Ev.pos cp (Ev.bind q1 (Ev.pos cq S))), Ev.bind p2 (Ev.pos cp (Ev.bind q2 (Ev.pos cq (I0 _ (Ev.neg (fun h => ct (of_decide_eq_true h)) (Ev.bind c1 (Ev.now _))))))), c2.trans ⟨fun z => ⟨p3.1 cp, q3.1 cq, by omega, co, z⟩, fun z => z.2.2.2.2⟩⟩
        · have ct : t ≥ 0 := t2.2 (fun h => co (fun j hj => h j (by omega) hj))
          have e : b = false := by
            rcases b with _ | _
            · rfl
            · exact absurd (fun j hj => (b2.1 rfl).1 j (by omega) hj) co
          subst e
          exact ⟨false, Ev.bind p1 (Ev.pos cp (Ev.bind q1 (Ev.pos cq S))), Ev.bind p2 (Ev.pos cp (Ev.bind q2 (Ev.pos cq (I0 _ (Ev.pos (decide_eq_true ct) (Ev.now _)))))), ⟨fun h => (by cases h), fun z => absurd z.2.2.2.1 co⟩⟩
      · have ne : ((lo.length : Int) != (xs.length : Int)) = true := by simp; omega
        exact ⟨false, Ev.bind p1 (Ev.pos cp (Ev.bind q1 (Ev.pos cq (sj _ ne)))), Ev.bind p2 (Ev.pos cp (Ev.bind q2 (Ev.pos cq (ij _ ne)))), ⟨fun h => (by cases h), fun z => absurd z.2.2.1 (by omega)⟩⟩
    · exact ⟨false, Ev.bind p1 (Ev.pos cp (Ev.bind q1 (Ev.neg cq (sj _ rfl)))), Ev.bind p2 (Ev.pos cp (Ev.bind q2 (Ev.neg cq (ij _ rfl)))), ⟨fun h => (by cases h), fun z => absurd (q3.2 z.2.1) cq⟩⟩
  · exact ⟨false, Ev.bind p1 (Ev.neg cp (sj _ rfl)), Ev.bind p2 (Ev.neg cp (ij _ rfl)), ⟨fun h => (by cases h), fun z => absurd (p3.2 z.1) cp⟩⟩

/-- How far a drawing of a list is. -/
def FarL {α : Type} (m a : Int) (r : List α × Int × Int) : Prop := r.1.length ≤ 30 ∧ a ≤ r.2.1 ∧ r.2.1 ≤ a + m
theorem FarL.up {α : Type} {m m' a a' : Int} {r : List α × Int × Int} (h : FarL m a r) (h1 : a' ≤ a) (h2 : a + m ≤ a' + m') : FarL m' a' r := ⟨h.1, by have := h.2; omega, by have := h.2; omega⟩
theorem draw_train_more {c : List Int} (hc : Bytes c) (x7 y z : Int) (h7 : 0 ≤ x7) : ∀ (d : Nat) (xs : List S60) (a s : Int), 10 ≤ xs.length + d → x7 < xs.length → xs.length ≤ 10 → 0 ≤ a → a ≤ 1000000000000000000 - 2 * d →
    Has (fun k => spec_l1Cur_train.l1 k xs x7 c a s y z) (FarL (2 * d + 2) a) := by
  intro d
  induction d with
  | zero =>
    intro xs a s hl hx h30 h0 h1
    refine Has.step (fun k => spec_l1Cur_train.l1.eq_2 ..) (Has.bind (pick hc s 2 h0 (by omega)) fun r ⟨r0, r1, _, r3, r4⟩ => ?_)
    have r5 := r1 (by omega)
    rw [show wrap64 (8 + r.1) = 8 + r.1 from w64 (by omega) (by omega)]
    exact Has.neg (by omega) (Has.pos h7 (Has.pos hx (Has.now ⟨by simp only [List.length_set]; omega, by simp only; omega, by simp only; omega⟩)))
  | succ d ih =>
    intro xs a s hl hx h30 h0 h1
    refine Has.step (fun k => spec_l1Cur_train.l1.eq_2 ..) (Has.bind (pick hc s 2 h0 (by omega)) fun r ⟨r0, r1, _, r3, r4⟩ => ?_)
    have r5 := r1 (by omega)
    rw [show wrap64 (8 + r.1) = 8 + r.1 from w64 (by omega) (by omega)]
    refine Has.ite (fun q => Has.pos (by omega) ?_) (fun _ => Has.pos h7 (Has.pos hx (Has.now ⟨by simp only [List.length_set]; omega, by simp only; omega, by simp only; omega⟩)))
    exact Has.mono (ih _ r.2.1 r.2.2 (by simp; omega) (by simp; omega) (by simp; omega) (by omega) (by omega)) fun b hb => hb.up (by omega) (by omega)
theorem draw_train_at {c : List Int} (hc : Bytes c) : ∀ (n : Nat) (xs : List S60) (a s : Int), xs.length + n ≤ 8 → 0 < xs.length + n → 0 ≤ a → a ≤ 100000000000000000 - 4 * n →
    Has (fun k => spec_l1Cur_train.l0 k xs n c a s) (FarL (4 * n + 40) a) := by
  intro n
  induction n with
  | zero =>
    intro xs a s hl hp h0 h1
    refine Has.step (fun k => spec_l1Cur_train.l0.eq_2 ..) (Has.neg (by omega) ?_)
    refine Has.bind (pick hc s _ h0 (by omega)) fun i ⟨i0, i1, i2, i3, i4⟩ => ?_
    have i5 : i.1 < (xs.length : Int) := by
      rcases Int.lt_or_le 1 (xs.length : Int) with h | h
      · exact i1 h
      · have := i2 h
        omega
    refine Has.pos i0 (Has.pos i5 (Has.bind (pick hc i.2.2 40 (by omega) (by omega)) fun r ⟨r0, r1, _, r3, r4⟩ => ?_))
    refine Has.ite (fun _ => ?_) (fun _ => Has.ite (fun _ => ?_) (fun _ => Has.ite (fun _ => ?_) (fun _ => ?_)))
    · exact Has.bind (among hc r.2.2 _ (by simp) (by omega) (by omega)) fun q ⟨_, q1, q2⟩ => Has.now ⟨by simp only [List.length_set]; omega, by simp only; omega, by simp only; omega⟩
    · exact Has.bind (among hc r.2.2 _ (by simp) (by omega) (by omega)) fun q ⟨_, q1, q2⟩ => Has.now ⟨by simp only [List.length_set]; omega, by simp only; omega, by simp only; omega⟩
    · exact Has.mono (draw_train_more hc i.1 _ _ i0 10 xs r.2.1 r.2.2 (by omega) i5 (by omega) (by omega) (by omega)) fun b hb => hb.up (by omega) (by omega)
    · exact Has.now ⟨by simp only [List.length_set]; omega, by simp only; omega, by simp only; omega⟩
  | succ n ih =>
    intro xs a s hl hp h0 h1
    refine Has.step (fun k => spec_l1Cur_train.l0.eq_2 ..) (Has.pos (by omega) ?_)
    rw [show wrap64 (((n + 1 : Nat) : Int) - 1) = (n : Int) from by rw [w64 (by omega) (by omega)]; omega]
    refine Has.bind (pick hc s 3 h0 (by omega)) fun q ⟨_, _, _, q1, q2⟩ => ?_
    refine Has.bind (among hc q.2.2 _ (by simp) (by omega) (by omega)) fun u ⟨_, u1, u2⟩ => ?_
    exact Has.pos (by omega) (Has.mono (ih _ u.2.1 u.2.2 (by simp; omega) (by simp; omega) (by omega) (by omega)) fun b hb => hb.up (by omega) (by omega))
theorem draw_train {c : List Int} (hc : Bytes c) {a : Int} (s : Int) (h0 : 0 ≤ a) (h1 : a ≤ 10000000000000000) : Has (fun k => spec_l1Cur_train.f k c a s 4) (FarL 100 a) := by
  unfold spec_l1Cur_train.f
  refine Has.bind (pick hc s 4 h0 (by omega)) fun r ⟨r0, r1, _, r3, r4⟩ => ?_
  have r5 := r1 (by omega)
  rw [show wrap64 (1 + r.1) = (((1 + r.1).toNat : Nat) : Int) from by rw [w64 (by omega) (by omega)]; omega]
  exact Has.mono (draw_train_at hc (1 + r.1).toNat [] r.2.1 r.2.2 (by simp; omega) (by simp; omega) (by omega) (by omega)) fun b hb => hb.up (by omega) (by omega)
theorem digSize (d : Int) (h0 : 0 ≤ d) (h9 : d ≤ 9) : ((⟨#[48, 49, 50, 51, 52, 53, 54, 55, 56, 57]⟩ : ByteArray).extract d.toNat (d + 1).toNat).size = 1 := by
  rw [ByteArray.size_extract]
  show min (d + 1).toNat 10 - d.toNat = 1
  omega
theorem numStep {Q : ByteArray → Prop} (n : Int) (h0 : 0 ≤ n) (h1 : n ≤ 1000000) (t : ByteArray) (ht : t.size ≤ 1000) (p : Int) (p0 : 0 < p) (p1 : p ≤ 1000) (h : ∀ y : ByteArray, y.size = t.size + 1 → Has (fun k => spec_l2Number.l0 k n y (p / 10)) Q) : Has (fun k => spec_l2Number.l0 k n t p) Q := by
  have e : wrap64 (Int.tdiv n p) = n / p := by
    rw [Int.tdiv_eq_ediv_of_nonneg h0]
    have b0 := Int.ediv_nonneg h0 (show 0 ≤ p by omega)
    have b1 := Int.ediv_le_self p h0
    exact w64 (by omega) (by omega)
  have b0 := Int.ediv_nonneg h0 (show 0 ≤ p by omega)
  have ep : wrap64 (Int.tdiv p 10) = p / 10 := by
    rw [Int.tdiv_eq_ediv_of_nonneg (by omega)]
    exact w64 (by omega) (by omega)
  refine Has.step (fun k => spec_l2Number.l0.eq_2 ..) (Has.pos p0 (Has.neg (by omega) ?_))
  rw [e, ep, Int.tmod_eq_emod_of_nonneg b0]
  generalize n / p = z at b0
  clear e ep
  have d0 : 0 ≤ z % 10 := by omega
  have d9 : z % 10 ≤ 9 := by omega
  generalize z % 10 = d at d0 d9
  rw [show wrap64 (d + 1) = d + 1 from w64 (by omega) (by omega)]
  have ds := digSize d d0 d9
  exact Has.pos d0 (Has.pos (by omega) (Has.pos (by omega) (Has.pos (by omega) (h _ (by rw [ByteArray.size_append, ds])))))
theorem number (t : ByteArray) (ht : t.size = 3) (n : Int) (h0 : 0 ≤ n) (h1 : n ≤ 1000000) : Has (fun k => spec_l2Number.f k t n) (fun r => r.size = 8) := by
  unfold spec_l2Number.f
  refine numStep n h0 h1 t (by omega) 1000 (by omega) (by omega) fun u hu => ?_
  rw [show (1000 : Int) / 10 = 100 from rfl]
  refine numStep n h0 h1 u (by omega) 100 (by omega) (by omega) fun v hv => ?_
  rw [show (100 : Int) / 10 = 10 from rfl]
  refine numStep n h0 h1 v (by omega) 10 (by omega) (by omega) fun w hw => ?_
  rw [show (10 : Int) / 10 = 1 from rfl]
  refine numStep n h0 h1 w (by omega) 1 (by omega) (by omega) fun x hx => ?_
  rw [show (1 : Int) / 10 = 0 from rfl]
  refine Has.step (fun k => spec_l2Number.l0.eq_2 ..) (Has.neg (by omega) (Has.bind (check7 x (by omega)) fun q _ => Has.val (Has.pos (by rw [strOne]; omega) (Has.now ?_))))
  rw [ByteArray.size_append, strOne]
  omega
theorem draw_id {c : List Int} (hc : Bytes c) {a : Int} (s : Int) (h0 : 0 ≤ a) (h1 : a ≤ 1000000000000000000) : Has (fun k => spec_l1Cur_id.f k c a s) (fun r => r.1.size = 8 ∧ a ≤ r.2.1 ∧ r.2.1 ≤ a + 6) := by
  unfold spec_l1Cur_id.f
  refine Has.bind (drawOf hc s _ (by simp) h0 (by omega)) fun r ⟨r0, r1, r2⟩ => ?_
  have sz : r.1.size = 3 := by
    simp only [List.mem_cons, List.not_mem_nil, or_false] at r0
    rcases r0 with h | h | h | h <;> rw [h] <;> rfl
  refine Has.bind (pick hc r.2.2 200 (by omega) (by omega)) fun p ⟨p0, p1, _, p3, p4⟩ => ?_
  have p5 := p1 (by omega)
  refine Has.bind (among hc p.2.2 _ (by simp) (by omega) (by omega)) fun q ⟨q0, q1, q2⟩ => ?_
  have pq : 0 ≤ p.1 * q.1 ∧ p.1 * q.1 ≤ 1000000 := by
    simp only [List.mem_cons, List.not_mem_nil, or_false] at q0
    rcases q0 with h | h | h <;> rw [h] <;> omega
  rw [show wrap64 (p.1 * q.1) = p.1 * q.1 from w64 (by omega) (by omega)]
  exact Has.bind (number r.1 sz _ pq.1 pq.2) fun t ht => Has.now ⟨ht, by simp only; omega, by simp only; omega⟩
theorem draw_container {c : List Int} (hc : Bytes c) {a : Int} (s : Int) (h0 : 0 ≤ a) (h1 : a ≤ 100000000000000000) : Has (fun k => spec_l1Cur_container.f k c a s) (fun r => a ≤ r.2.2.2.2.2.1 ∧ r.2.2.2.2.2.1 ≤ a + 14) := by
  unfold spec_l1Cur_container.f
  refine Has.bind (draw_id hc s h0 (by omega)) fun r ⟨_, r1, r2⟩ => Has.bind (pick hc r.2.2 2 (by omega) (by omega)) fun p ⟨_, _, _, p3, p4⟩ => ?_
  refine Has.bind (among hc p.2.2 _ (by simp) (by omega) (by omega)) fun q ⟨_, q1, q2⟩ => Has.bind (among hc q.2.2 _ (by simp) (by omega) (by omega)) fun u ⟨_, u1, u2⟩ => ?_
  exact Has.bind (pick hc u.2.2 4 (by omega) (by omega)) fun v ⟨_, _, _, v3, v4⟩ => Has.now ⟨by simp only; omega, by simp only; omega⟩
theorem draw_spoilt {c : List Int} (hc : Bytes c) {a : Int} (s : Int) (t : ByteArray) (ht : t.size = 8) (w : ByteArray) (hw : w.size = 4) (h0 : 0 ≤ a) (h1 : a ≤ 1000000000000000000) : Has (fun _ => spec_l1Cur_spoilt.f c a s t w) (fun r => a ≤ r.2.1 ∧ r.2.1 ≤ a + 6) := by
  unfold spec_l1Cur_spoilt.f
  refine Has.ite (fun _ => Has.pos (by omega) (Has.pos (by omega) (Has.now ⟨by simp only; omega, by simp only; omega⟩))) (fun _ => ?_)
  refine Has.bind (pick hc s _ h0 (by omega)) fun i ⟨i0, i1, _, i3, i4⟩ => ?_
  have i5 := i1 (by omega)
  refine Has.bind (pick hc i.2.2 _ (by omega) (by omega)) fun j ⟨j0, j1, _, j3, j4⟩ => ?_
  have j5 := j1 (by omega)
  rw [show wrap64 (i.1 + 1) = i.1 + 1 from w64 (by omega) (by omega)]
  refine Has.pos j0 (Has.pos (by omega) (Has.pos (by omega) (Has.pos (by rw [ByteArray.size_extract]; omega) (Has.bind (pick hc j.2.2 3 (by omega) (by omega)) fun q ⟨_, _, _, q3, q4⟩ => ?_))))
  have fin : a ≤ q.2.1 ∧ q.2.1 ≤ a + 6 := by omega
  refine Has.ite (fun _ => Has.pos i0 (Has.pos (by omega) ?_)) (fun _ => Has.ite (fun _ => Has.pos i0 (Has.pos (by omega) ?_)) (fun _ => Has.pos i0 (Has.pos (by omega) ?_)))
  · exact Has.pos (by simp only [ByteArray.size_append, ByteArray.size_extract]; omega) (Has.pos (by simp only [ByteArray.size_append, ByteArray.size_extract]; omega) (Has.now fin))
  · exact Has.pos (by simp only [ByteArray.size_append, ByteArray.size_extract]; omega) (Has.pos (by omega) (Has.pos (by omega) (Has.pos (by simp only [ByteArray.size_append, ByteArray.size_extract]; omega) (Has.now fin))))
  · exact Has.pos (by omega) (Has.pos (by omega) (Has.pos (by simp only [ByteArray.size_append, ByteArray.size_extract]; omega) (Has.now fin)))
theorem draw_anyId {c : List Int} (hc : Bytes c) {a : Int} (s : Int) (h0 : 0 ≤ a) (h1 : a ≤ 100000000000000000) : Has (fun k => spec_l1Cur_anyId.f k c a s) (fun r => a ≤ r.2.1 ∧ r.2.1 ≤ a + 16) := by
  unfold spec_l1Cur_anyId.f
  have j : ∀ (t : ByteArray) (b u : Int), a ≤ b → b ≤ a + 14 → Has (fun k => spec_l1Cur_anyId.j0 k t c b u) (fun r => a ≤ r.2.1 ∧ r.2.1 ≤ a + 16) := by
    intro t b u b0 b1
    refine Has.step (fun k => spec_l1Cur_anyId.j0.eq_2 ..) (Has.bind (one hc u 24 (by omega) (by omega)) fun q ⟨q1, q2⟩ => Has.ite (fun _ => ?_) (fun _ => Has.now ⟨by simp only; omega, by simp only; omega⟩))
    exact Has.bind (number _ rfl 9999 (by omega) (by omega)) fun t _ => Has.now ⟨by simp only; omega, by simp only; omega⟩
  refine Has.bind (draw_id hc s h0 (by omega)) fun r ⟨r0, r1, r2⟩ => Has.bind (one hc r.2.2 8 (by omega) (by omega)) fun q ⟨q1, q2⟩ => Has.ite (fun _ => ?_) (fun _ => j _ _ _ (by omega) (by omega))
  exact Has.bind (draw_spoilt hc q.2.2 r.1 r0 _ rfl (by omega) (by omega)) fun v ⟨v1, v2⟩ => j _ _ _ (by omega) (by omega)
theorem draw_anyContainer {c : List Int} (hc : Bytes c) {a : Int} (s : Int) (h0 : 0 ≤ a) (h1 : a ≤ 10000000000000000) : Has (fun k => spec_l1Cur_anyContainer.f k c a s) (fun r => a ≤ r.2.2.2.2.2.1 ∧ r.2.2.2.2.2.1 ≤ a + 32) := by
  unfold spec_l1Cur_anyContainer.f
  refine Has.bind (draw_container hc s h0 (by omega)) fun r ⟨r1, r2⟩ => Has.bind (pick hc r.2.2.2.2.2.2 24 (by omega) (by omega)) fun p ⟨_, _, _, p3, p4⟩ => ?_
  refine Has.ite (fun _ => Has.bind (draw_anyId hc p.2.2 (by omega) (by omega)) fun q ⟨q1, q2⟩ => Has.now ⟨by simp only; omega, by simp only; omega⟩) (fun _ => ?_)
  refine Has.ite (fun _ => ?_) (fun _ => Has.ite (fun _ => ?_) (fun _ => Has.ite (fun _ => ?_) (fun _ => Has.ite (fun _ => ?_) (fun _ => Has.now ⟨by simp only; omega, by simp only; omega⟩))))
  all_goals exact Has.bind (among hc p.2.2 _ (by simp) (by omega) (by omega)) fun q ⟨_, q1, q2⟩ => Has.now ⟨by simp only; omega, by simp only; omega⟩
theorem draw_conts_more {c : List Int} (hc : Bytes c) : ∀ (d i : Nat) (xs : List S33) (a s : Int), i + d = 14 → xs.length + d ≤ 30 → 0 ≤ a → a ≤ 1000000000000000000 - 2 * d →
    Has (fun k => spec_l1Cur_containers.l1 k xs i c a s) (FarL (2 * d + 2) a) := by
  intro d
  induction d with
  | zero =>
    intro i xs a s hi hl h0 h1
    refine Has.step (fun k => spec_l1Cur_containers.l1.eq_2 ..) (Has.bind (pick hc s 2 h0 (by omega)) fun r ⟨r0, r1, _, r3, r4⟩ => ?_)
    exact Has.ite (fun _ => Has.neg (by omega) (Has.now ⟨by simp only; omega, by simp only; omega, by simp only; omega⟩)) (fun _ => Has.now ⟨by simp only; omega, by simp only; omega, by simp only; omega⟩)
  | succ d ih =>
    intro i xs a s hi hl h0 h1
    refine Has.step (fun k => spec_l1Cur_containers.l1.eq_2 ..) (Has.bind (pick hc s 2 h0 (by omega)) fun r ⟨r0, r1, _, r3, r4⟩ => ?_)
    refine Has.ite (fun _ => Has.pos (by omega) (Has.bind (number _ rfl i (by omega) (by omega)) fun t _ => Has.pos (by omega) ?_)) (fun _ => Has.now ⟨by simp only; omega, by simp only; omega, by simp only; omega⟩)
    rw [show wrap64 ((i : Int) + 1) = ((i + 1 : Nat) : Int) from by rw [w64 (by omega) (by omega)]; rfl]
    exact Has.mono (ih (i + 1) _ r.2.1 r.2.2 (by omega) (by simp; omega) (by omega) (by omega)) fun b hb => hb.up (by omega) (by omega)
theorem draw_conts_at {c : List Int} (hc : Bytes c) : ∀ (n : Nat) (xs : List S33) (a s : Int), xs.length + n ≤ 8 → 0 ≤ a → a ≤ 1000000000000000 - 14 * n →
    Has (fun k => spec_l1Cur_containers.l0 k xs n c a s) (FarL (14 * n + 60) a) := by
  intro n
  induction n with
  | zero =>
    intro xs a s hl h0 h1
    refine Has.step (fun k => spec_l1Cur_containers.l0.eq_2 ..) (Has.neg (by omega) (Has.bind (pick hc s 20 h0 (by omega)) fun r ⟨r0, r1, _, r3, r4⟩ => ?_))
    refine Has.ite (fun _ => ?_) (fun _ => Has.ite (fun _ => Has.ite (fun hp => ?_) (fun _ => Has.now ⟨by simp only; omega, by simp only; omega, by simp only; omega⟩)) (fun _ => Has.ite (fun _ => ?_) (fun _ => Has.now ⟨by simp only; omega, by simp only; omega, by simp only; omega⟩)))
    · exact Has.bind (draw_anyContainer hc r.2.2 (by omega) (by omega)) fun q ⟨q1, q2⟩ => Has.pos (by omega) (Has.now ⟨by simp only [List.length_append, List.length_singleton]; omega, by simp only; omega, by simp only; omega⟩)
    · refine Has.bind (pick hc r.2.2 _ (by omega) (by omega)) fun i ⟨i0, i1, i2, i3, i4⟩ => ?_
      have i5 : i.1 < (xs.length : Int) := by
        rcases Int.lt_or_le 1 (xs.length : Int) with h | h
        · exact i1 h
        · have := i2 h
          omega
      exact Has.pos i0 (Has.pos i5 (Has.pos (by omega) (Has.now ⟨by simp only [List.length_append, List.length_singleton]; omega, by simp only; omega, by simp only; omega⟩)))
    · exact Has.mono (draw_conts_more hc 14 0 xs r.2.1 r.2.2 (by omega) (by omega) (by omega) (by omega)) fun b hb => hb.up (by omega) (by omega)
  | succ n ih =>
    intro xs a s hl h0 h1
    refine Has.step (fun k => spec_l1Cur_containers.l0.eq_2 ..) (Has.pos (by omega) ?_)
    rw [show wrap64 (((n + 1 : Nat) : Int) - 1) = (n : Int) from by rw [w64 (by omega) (by omega)]; omega]
    refine Has.bind (draw_container hc s h0 (by omega)) fun q ⟨q1, q2⟩ => ?_
    obtain ⟨t, t1, _⟩ := find_spec xs (by omega) q.1 xs.length 0 (by omega)
    have F : Ev (fun k => spec_l2Find.f k xs q.1) t := by unfold spec_l2Find.f; exact t1
    refine Has.ev F (Has.ite (fun _ => Has.pos (by omega) ?_) (fun _ => ?_))
    · exact Has.mono (ih _ _ _ (by simp; omega) (by omega) (by omega)) fun b hb => hb.up (by omega) (by omega)
    · exact Has.mono (ih _ _ _ (by omega) (by omega) (by omega)) fun b hb => hb.up (by omega) (by omega)
theorem draw_conts {c : List Int} (hc : Bytes c) {a : Int} (s : Int) (h0 : 0 ≤ a) (h1 : a ≤ 100000000000000) : Has (fun k => spec_l1Cur_containers.f k c a s) (FarL 200 a) := by
  unfold spec_l1Cur_containers.f
  refine Has.bind (pick hc s 8 h0 (by omega)) fun r ⟨r0, r1, _, r3, r4⟩ => ?_
  have r5 := r1 (by omega)
  rw [show r.1 = ((r.1.toNat : Nat) : Int) by omega]
  exact Has.mono (draw_conts_at hc r.1.toNat [] r.2.1 r.2.2 (by simp; omega) (by omega) (by omega)) fun b hb => hb.up (by omega) (by omega)
/-- Sums and tests of any lists: there is an answer. -/
theorem sumsAny (xs : List S33) (lo : List Int) (h : lo.length ≤ xs.length) (hx : xs.length ≤ 1000) (w : Int) : Has (fun k => spec_l19Sums.f k xs lo w) (fun _ => True) := by
  unfold spec_l19Sums.f
  have main : ∀ d i : Nat, i + d = lo.length → ∀ a b : Int, Has (fun k => spec_l19Sums.l0 k xs lo w a b i) (fun _ => True) := by
    intro d
    induction d with
    | zero =>
      intro i hi a b
      exact Has.step (fun k => spec_l19Sums.l0.eq_2 ..) (Has.neg (by omega) (Has.now trivial))
    | succ d ih =>
      intro i hi a b
      refine Has.step (fun k => spec_l19Sums.l0.eq_2 ..) (Has.pos (by omega) (Has.pos (by omega) ?_))
      rw [show wrap64 ((i : Int) + 1) = ((i + 1 : Nat) : Int) from by rw [w64 (by omega) (by omega)]; rfl]
      exact Has.ite (fun _ => Has.pos (by omega) (ih (i + 1) (by omega) _ _)) (fun _ => ih (i + 1) (by omega) _ _)
  exact main lo.length 0 (by omega) 0 0
theorem fitsAny (ts : List S60) (ht : ts.length ≤ 1000) (xs : List S33) (lo : List Int) (h : lo.length ≤ xs.length) (hx : xs.length ≤ 1000) : Has (fun k => spec_l19Fits.f k ts xs lo) (fun _ => True) := by
  unfold spec_l19Fits.f
  have main : ∀ d i : Nat, i + d = ts.length → Has (fun k => spec_l19Fits.l0 k ts xs lo i) (fun _ => True) := by
    intro d
    induction d with
    | zero =>
      intro i hi
      exact Has.step (fun k => spec_l19Fits.l0.eq_2 ..) (Has.neg (by omega) (Has.now trivial))
    | succ d ih =>
      intro i hi
      refine Has.step (fun k => spec_l19Fits.l0.eq_2 ..) (Has.pos (by omega) (Has.bind (sumsAny xs lo h hx i) fun r _ => Has.pos (by omega) ?_))
      rw [show wrap64 ((i : Int) + 1) = ((i + 1 : Nat) : Int) from by rw [w64 (by omega) (by omega)]; rfl]
      exact Has.ite (fun _ => Has.now trivial) (fun _ => Has.ite (fun _ => Has.now trivial) (fun _ => ih (i + 1) (by omega)))
  exact main ts.length 0 (by omega)
theorem orderAny (ts : List S60) (ht : ts.length ≤ 1000) (xs : List S33) (hx : xs.length ≤ 1000) : Has (fun k => spec_l19Order.f k ts xs) (fun r => r.length = xs.length) := by
  unfold spec_l19Order.f
  have main : ∀ d i : Nat, i + d = xs.length → ∀ out : List Int, out.length = i → Has (fun k => spec_l19Order.l0 k ts xs out i) (fun r => r.length = xs.length) := by
    intro d
    induction d with
    | zero =>
      intro i hi out ho
      exact Has.step (fun k => spec_l19Order.l0.eq_2 ..) (Has.neg (by omega) (Has.now (by omega)))
    | succ d ih =>
      intro i hi out ho
      have w1 : wrap64 ((i : Int) + 1) = ((i + 1 : Nat) : Int) := by rw [w64 (by omega) (by omega)]; rfl
      have inner : ∀ e w : Nat, w + e = ts.length → ∀ o : List Int, o.length = i + 1 → Has (fun k => spec_l19Order.l1 k ts xs o i w) (fun r => r.length = xs.length) := by
        intro e
        induction e with
        | zero =>
          intro w hw o ho
          refine Has.step (fun k => spec_l19Order.l1.eq_2 ..) (Has.neg (by omega) ?_)
          rw [w1]
          exact ih (i + 1) (by omega) o ho
        | succ e ie =>
          intro w hw o ho
          have own : spec_l1Own.f o = some o := by
            unfold spec_l1Own.f
            show (if (0 + o.length < 17592186044416) then some ([] ++ o) else none) = _
            rw [if_pos (by omega), List.nil_append]
          refine Has.step (fun k => spec_l19Order.l1.eq_2 ..) (Has.pos (by omega) (Has.const own (Has.pos (by omega) (Has.pos (by omega) (Has.val (Has.bind (fitsAny ts ht xs _ (by rw [List.length_set]; omega) hx) fun b _ => ?_))))))
          rw [w1, show wrap64 ((w : Int) + 1) = ((w + 1 : Nat) : Int) from by rw [w64 (by omega) (by omega)]; rfl]
          exact Has.ite (fun _ => ih (i + 1) (by omega) _ (by rw [List.length_set]; exact ho)) (fun _ => ie (w + 1) (by omega) o ho)
      exact Has.step (fun k => spec_l19Order.l0.eq_2 ..) (Has.pos (by omega) (Has.pos (by omega) (inner ts.length 0 (by omega) _ (by rw [List.length_append, List.length_singleton]; omega))))
  exact main xs.length 0 (by omega) [] rfl
/-- How far the drawing of a loading is. -/
def FarO (m a : Int) (r : List Int × Int × Int) : Prop := r.1.length ≤ 31 ∧ a ≤ r.2.1 ∧ r.2.1 ≤ a + m
theorem FarO.up {m m' a a' : Int} {r : List Int × Int × Int} (h : FarO m a r) (h1 : a' ≤ a) (h2 : a + m ≤ a' + m') : FarO m' a' r := ⟨h.1, by have := h.2; omega, by have := h.2; omega⟩
theorem draw_loading_at {c : List Int} (hc : Bytes c) (ts : List S60) : ∀ (n : Nat) (lo : List Int) (a s : Int), lo.length ≤ 30 → 0 ≤ a → a ≤ 1000000000000000 - 2 * n →
    Has (fun k => spec_l1Cur_loading.l0 k ts lo n c a s) (FarO (2 * n + 8) a) := by
  have j : ∀ (lo : List Int) (a s : Int), lo.length ≤ 30 → 0 ≤ a → a ≤ 1000000000000000 → Has (fun k => spec_l1Cur_loading.j1 k ts lo c a s) (FarO 8 a) := by
    intro lo a s hl h0 h1
    refine Has.step (fun k => spec_l1Cur_loading.j1.eq_2 ..) (Has.bind (pick hc s 24 h0 (by omega)) fun r ⟨r0, r1, _, r3, r4⟩ => ?_)
    refine Has.ite (fun _ => Has.pos (by omega) (Has.now ⟨by simp only [List.length_append, List.length_singleton]; omega, by simp only; omega, by simp only; omega⟩)) (fun _ => Has.ite (fun _ => Has.ite (fun hp => ?_) (fun _ => ?_)) (fun _ => ?_))
    · refine Has.bind (pick hc r.2.2 _ (by omega) (by omega)) fun i ⟨i0, i1, i2, i3, i4⟩ => ?_
      have i5 : i.1 < (lo.length : Int) := by
        rcases Int.lt_or_le 1 (lo.length : Int) with h | h
        · exact i1 h
        · have := i2 h
          omega
      exact Has.bind (among hc i.2.2 _ (List.cons_ne_nil _ _) (by omega) (by omega)) fun q ⟨_, q1, q2⟩ => Has.pos i0 (Has.pos i5 (Has.now ⟨by simp only [List.length_set]; omega, by simp only; omega, by simp only; omega⟩))
    · exact Has.now ⟨by simp only; omega, by simp only; omega, by simp only; omega⟩
    · exact Has.now ⟨by simp only; omega, by simp only; omega, by simp only; omega⟩
  intro n
  induction n with
  | zero =>
    intro lo a s hl h0 h1
    exact Has.step (fun k => spec_l1Cur_loading.l0.eq_2 ..) (Has.neg (by omega) (Has.mono (j lo a s (by omega) h0 (by omega)) fun b hb => hb.up (by omega) (by omega)))
  | succ n ih =>
    intro lo a s hl h0 h1
    refine Has.step (fun k => spec_l1Cur_loading.l0.eq_2 ..) (Has.pos (by omega) (Has.ite (fun hp => ?_) (fun _ => Has.mono (j lo a s (by omega) h0 (by omega)) fun b hb => hb.up (by omega) (by omega))))
    rw [show wrap64 (((n + 1 : Nat) : Int) - 1) = (n : Int) from by rw [w64 (by omega) (by omega)]; omega]
    refine Has.bind (pick hc s _ h0 (by omega)) fun i ⟨i0, i1, i2, i3, i4⟩ => ?_
    have i5 : i.1 < (lo.length : Int) := by
      rcases Int.lt_or_le 1 (lo.length : Int) with h | h
      · exact i1 h
      · have := i2 h
        omega
    exact Has.pos i0 (Has.pos i5 (Has.mono (ih _ i.2.1 i.2.2 (by rw [List.length_set]; exact hl) (by omega) (by omega)) fun b hb => hb.up (by omega) (by omega)))
theorem draw_loading {c : List Int} (hc : Bytes c) {a : Int} (s : Int) (ts : List S60) (ht : ts.length ≤ 30) (xs : List S33) (hx : xs.length ≤ 30) (h0 : 0 ≤ a) (h1 : a ≤ 100000000000000) : Has (fun k => spec_l1Cur_loading.f k c a s ts xs) (FarO 50 a) := by
  unfold spec_l1Cur_loading.f
  refine Has.bind (orderAny ts (by omega) xs (by omega)) fun lo hlo => Has.bind (pick hc s 3 h0 (by omega)) fun r ⟨r0, r1, _, r3, r4⟩ => ?_
  have r5 := r1 (by omega)
  rw [show r.1 = ((r.1.toNat : Nat) : Int) by omega]
  exact Has.mono (draw_loading_at hc ts r.1.toNat lo r.2.1 r.2.2 (by omega) (by omega) (by omega)) fun b hb => hb.up (by omega) (by omega)
theorem draw_loadings {c : List Int} (hc : Bytes c) : Has (fun k => spec_DrawIsValidLoading.f k c) (fun r => r.1.length ≤ 30 ∧ r.2.1.length ≤ 30 ∧ r.2.2.length ≤ 31) := by
  unfold spec_DrawIsValidLoading.f
  exact Has.bind (draw_train hc 0 (by omega) (by omega)) fun t ⟨t1, t2, t3⟩ => Has.bind (draw_conts hc t.2.2 (by omega) (by omega)) fun x ⟨x1, x2, x3⟩ => Has.bind (draw_loading hc x.2.2 t.1 t1 x.1 x1 (by omega) (by omega)) fun o ⟨o1, _, _⟩ => Has.now ⟨t1, x1, o1⟩


theorem moveFacts (ts : List S60) (ht : ts.length ≤ 1048577) (xs : List S33) (hx : xs.length ≤ 1048577) (lo : List Int) (hl : lo.length ≤ 1048577) (s : ByteArray) (v : Int) : ∃ r : List Int × Bool, Ev (fun k => spec_MoveToWagon.f k ts xs lo s v) r ∧ Ev (fun k => impl_MoveToWagon.f k ts xs lo s v) r ∧ r.1.length ≤ 1048577 ∧
    (r.2 = true → ∃ i : Nat, i < xs.length ∧ lo.length = xs.length ∧ r.1 = lo.set i v ∧ (∀ j : Nat, j < xs.length → (rd_T33 xs j).f0 = s → j = i) ∧ Load ts xs r.1) := by
  obtain ⟨b, h1, h2, h3⟩ := good ts ht xs hx lo hl
  obtain ⟨t, t1, t2⟩ := find_spec xs hx s xs.length 0 (by omega)
  obtain ⟨t', t1', t2'⟩ := find_impl xs hx s xs.length 0 (by omega)
  have e : t' = t := by
    rcases t2 with ⟨rfl, a⟩ | ⟨m, rfl, m0, m1, m2, m3⟩
    · rcases t2' with ⟨rfl, _⟩ | ⟨n, rfl, n0, n1, n2, n3⟩
      · rfl
      · exact absurd n2 (a n n0 n1)
    · rcases t2' with ⟨rfl, a⟩ | ⟨n, rfl, n0, n1, n2, n3⟩
      · exact absurd m2 (a m m0 m1)
      · rcases Nat.lt_trichotomy m n with q | q | q
        · exact absurd m2 (n3 m m0 q)
        · rw [q]
        · exact absurd n2 (m3 n n0 q)
  subst e
  have F : Ev (fun k => spec_l2Find.f k xs s) t' := by unfold spec_l2Find.f; exact t1
  have G : Ev (fun k => impl_indexOf.f k xs s) t' := by
    unfold impl_indexOf.f slices_IndexFunc_impl_Container.f
    exact Ev.bind t1' (Ev.now _)
  have own : spec_l1Own.f lo = some lo := by
    unfold spec_l1Own.f
    show (if (0 + lo.length < 17592186044416) then some ([] ++ lo) else none) = _
    rw [if_pos (by omega), List.nil_append]
  have cl : slices_Clone_int.f lo = some lo := by
    unfold slices_Clone_int.f
    show (if (0 + lo.length < 17592186044416) then some ([] ++ lo) else none) = _
    rw [if_pos (by omega), List.nil_append]
  have sj : ∀ z : Bool, z = true → Ev (fun k => spec_MoveToWagon.j0 k ts xs lo s v z) (([] : List Int), false) := fun z hz => Ev.step (fun k => spec_MoveToWagon.j0.eq_2 ..) (Ev.pos hz (Ev.now _))
  have ij : ∀ z : Bool, z = true → Ev (fun k => impl_MoveToWagon.j0 k ts xs lo v t' z) (([] : List Int), false) := fun z hz => Ev.step (fun k => impl_MoveToWagon.j0.eq_2 ..) (Ev.pos hz (Ev.now _))
  unfold spec_MoveToWagon.f impl_MoveToWagon.f
  by_cases c : b = true
  · have hle := (h3.1 c).2.2.1
    by_cases ct : t' < 0
    · exact ⟨([], false), Ev.bind h1 (Ev.pos c (Ev.bind F (sj _ (decide_eq_true ct)))), Ev.bind G (Ev.bind h2 (Ev.pos c (ij _ (decide_eq_true ct)))), by simp, fun h => (by cases h)⟩
    · have c0 : 0 ≤ t' := by omega
      have lt : t' < (lo.length : Int) := by
        rcases t2 with ⟨e, _⟩ | ⟨m, e, _, m1, _⟩ <;> omega
      obtain ⟨b', g1, g2, g3⟩ := good ts ht xs hx (lo.set t'.toNat v) (by simpa using hl)
      have S : ∀ r, Ev _ r → Ev (fun k => spec_MoveToWagon.j0 k ts xs lo s v (decide (t' < 0))) r := fun r hr => Ev.step (fun k => spec_MoveToWagon.j0.eq_2 ..) (Ev.neg (fun h => ct (of_decide_eq_true h)) (Ev.const own (Ev.bind F (Ev.pos c0 (Ev.pos lt (Ev.some (Ev.bind g1 hr)))))))
      have I : ∀ r, Ev _ r → Ev (fun k => impl_MoveToWagon.j0 k ts xs lo v t' (decide (t' < 0))) r := fun r hr => Ev.step (fun k => impl_MoveToWagon.j0.eq_2 ..) (Ev.neg (fun h => ct (of_decide_eq_true h)) (Ev.const cl (Ev.pos c0 (Ev.pos lt (Ev.some (Ev.bind g2 hr))))))
      by_cases cb : b' = true
      · refine ⟨(lo.set t'.toNat v, true), Ev.bind h1 (Ev.pos c (Ev.bind F (S _ (Ev.pos cb (Ev.now _))))), Ev.bind G (Ev.bind h2 (Ev.pos c (I _ (Ev.pos cb (Ev.now _))))), by simpa using hl, fun _ => ?_⟩
        rcases t2 with ⟨e, _⟩ | ⟨m, e, m0, m1, m2, m3⟩
        · omega
        · refine ⟨m, m1, hle, by simp only [e, Int.toNat_natCast], fun j hj hs => ?_, g3.1 cb⟩
          rcases Nat.lt_trichotomy j m with q | q | q
          · exact absurd hs (m3 j (Nat.zero_le _) q)
          · exact q
          · exact absurd (m2.trans hs.symm) (((h3.1 c).2.1.2 j hj).2 m q)
      · exact ⟨([], false), Ev.bind h1 (Ev.pos c (Ev.bind F (S _ (Ev.neg cb (Ev.now _))))), Ev.bind G (Ev.bind h2 (Ev.pos c (I _ (Ev.neg cb (Ev.now _))))), by simp, fun h => (by cases h)⟩
  · exact ⟨([], false), Ev.bind h1 (Ev.neg c (sj _ rfl)), Ev.bind G (Ev.bind h2 (Ev.neg c (ij _ rfl))), by simp, fun h => (by cases h)⟩


/-- The reference's inner loop: is there an earlier container on the same wagon that goes elsewhere? -/
theorem destInner (xs : List S33) (hx : xs.length ≤ 1048577) (lo : List Int) (hl : lo.length = xs.length) (i : Nat) (hi : i < xs.length) : ∀ d n : Nat, n + d = i →
    ((∃ j : Nat, n ≤ j ∧ j < i ∧ rd lo i ≥ 0 ∧ rd lo i = rd lo j ∧ (rd_T33 xs i).f4 ≠ (rd_T33 xs j).f4) → Ev (fun k => spec_ByDestination.l1 k xs lo i n) (false, true)) ∧
    ((¬ ∃ j : Nat, n ≤ j ∧ j < i ∧ rd lo i ≥ 0 ∧ rd lo i = rd lo j ∧ (rd_T33 xs i).f4 ≠ (rd_T33 xs j).f4) → ∀ r, Ev (fun k => spec_ByDestination.l0 k xs lo ((i + 1 : Nat) : Int)) r → Ev (fun k => spec_ByDestination.l1 k xs lo i n) r) := by
  have i0 : (0 : Int) ≤ i := by omega
  have li : (i : Int) < xs.length := by omega
  have ll : (i : Int) < lo.length := by omega
  have wi : wrap64 ((i : Int) + 1) = ((i + 1 : Nat) : Int) := by rw [w64 (by omega) (by omega)]; rfl
  intro d
  induction d with
  | zero =>
    intro n hn
    refine ⟨fun ⟨j, h1, h2, _⟩ => absurd h2 (by omega), fun _ r hr => ?_⟩
    rw [← wi] at hr
    exact Ev.step (fun k => spec_ByDestination.l1.eq_2 ..) (Ev.neg (by omega) hr)
  | succ d ih =>
    intro n hn
    have n0 : (0 : Int) ≤ n := by omega
    have ln : (n : Int) < i := by omega
    have lx : (n : Int) < xs.length := by omega
    have lo' : (n : Int) < lo.length := by omega
    have wn : wrap64 ((n : Int) + 1) = ((n + 1 : Nat) : Int) := by rw [w64 (by omega) (by omega)]; rfl
    obtain ⟨g1, g2⟩ := ih (n + 1) (by omega)
    have P : ∀ r, Ev _ r → Ev (fun k => spec_ByDestination.l1 k xs lo i n) r := fun r hr => Ev.step (fun k => spec_ByDestination.l1.eq_2 ..) (Ev.pos ln (Ev.pos i0 (Ev.pos ll hr)))
    by_cases c1 : rd lo i ≥ 0
    · by_cases c2 : rd lo i = rd lo n
      · by_cases c3 : (rd_T33 xs i).f4 = (rd_T33 xs n).f4
        · have Q : ∀ r, Ev (fun k => spec_ByDestination.l1 k xs lo i ((n + 1 : Nat) : Int)) r → Ev (fun k => spec_ByDestination.l1 k xs lo i n) r := by
            intro r hr
            rw [← wn] at hr
            exact P r (Ev.pos c1 (Ev.pos n0 (Ev.pos lo' (Ev.pos c2 (Ev.pos li (Ev.pos lx (Ev.pos c3 hr)))))))
          refine ⟨fun ⟨j, h1, h2, h3, h4, h5⟩ => Q _ (g1 ⟨j, ?_, h2, h3, h4, h5⟩), fun h r hr => Q _ (g2 (fun ⟨j, h1, h2⟩ => h ⟨j, by omega, h2⟩) r hr)⟩
          rcases Nat.lt_or_ge n j with q | q
          · exact q
          · obtain rfl : j = n := by omega
            exact absurd c3 h5
        · exact ⟨fun _ => P _ (Ev.pos c1 (Ev.pos n0 (Ev.pos lo' (Ev.pos c2 (Ev.pos li (Ev.pos lx (Ev.neg c3 (Ev.now _)))))))), fun h => absurd ⟨n, Nat.le_refl _, by omega, c1, c2, c3⟩ h⟩
      · have Q : ∀ r, Ev (fun k => spec_ByDestination.l1 k xs lo i ((n + 1 : Nat) : Int)) r → Ev (fun k => spec_ByDestination.l1 k xs lo i n) r := by
          intro r hr
          rw [← wn] at hr
          exact P r (Ev.pos c1 (Ev.pos n0 (Ev.pos lo' (Ev.neg c2 hr))))
        refine ⟨fun ⟨j, h1, h2, h3, h4, h5⟩ => Q _ (g1 ⟨j, ?_, h2, h3, h4, h5⟩), fun h r hr => Q _ (g2 (fun ⟨j, h1, h2⟩ => h ⟨j, by omega, h2⟩) r hr)⟩
        rcases Nat.lt_or_ge n j with q | q
        · exact q
        · obtain rfl : j = n := by omega
          exact absurd h4 c2
    · have Q : ∀ r, Ev (fun k => spec_ByDestination.l1 k xs lo i ((n + 1 : Nat) : Int)) r → Ev (fun k => spec_ByDestination.l1 k xs lo i n) r := by
        intro r hr
        rw [← wn] at hr
        exact P r (Ev.neg c1 hr)
      exact ⟨fun ⟨j, _, _, h3, _⟩ => absurd h3 c1, fun h r hr => Q _ (g2 (fun ⟨j, h1, h2⟩ => h ⟨j, by omega, h2⟩) r hr)⟩
theorem destLoop (T : Nat) (xs : List S33) (hx : xs.length ≤ 1048577) (hp : ∀ j : Nat, j < xs.length → 1 ≤ (rd_T33 xs j).f4) (lo : List Int) (hl : lo.length = xs.length) (ho : On T lo) : ∀ d i : Nat, i + d = xs.length → ∀ ps : List Int, ps.length = T →
    (∀ w : Nat, w < T → rd ps w ≠ 0 → ∃ j : Nat, j < i ∧ rd lo j = w ∧ (rd_T33 xs j).f4 = rd ps w) → (∀ j : Nat, j < i → rd lo j ≥ 0 → rd ps (rd lo j) = (rd_T33 xs j).f4) →
    ∃ r : Bool × Bool, Ev (fun k => spec_ByDestination.l0 k xs lo i) r ∧ Ev (fun k => impl_ByDestination.l0 k xs ps lo lo.length i) r := by
  intro d
  induction d with
  | zero =>
    intro i hi ps _ _ _
    exact ⟨(true, true), Ev.step (fun k => spec_ByDestination.l0.eq_2 ..) (Ev.neg (by omega) (Ev.now _)), Ev.step (fun k => impl_ByDestination.l0.eq_2 ..) (Ev.neg (by omega) (Ev.now _))⟩
  | succ d ih =>
    intro i hi ps hps hB hC
    have i0 : (0 : Int) ≤ i := by omega
    have li : (i : Int) < xs.length := by omega
    have ll : (i : Int) < lo.length := by omega
    have wi : wrap64 ((i : Int) + 1) = ((i + 1 : Nat) : Int) := by rw [w64 (by omega) (by omega)]; rfl
    obtain ⟨g1, g2⟩ := destInner xs hx lo hl i (by omega) i 0 (by omega)
    have S : ∀ r, Ev (fun k => spec_ByDestination.l1 k xs lo i ((0 : Nat) : Int)) r → Ev (fun k => spec_ByDestination.l0 k xs lo i) r := fun r hr => Ev.step (fun k => spec_ByDestination.l0.eq_2 ..) (Ev.pos li hr)
    have I : ∀ r, Ev _ r → Ev (fun k => impl_ByDestination.l0 k xs ps lo lo.length i) r := fun r hr => Ev.step (fun k => impl_ByDestination.l0.eq_2 ..) (Ev.pos ll (Ev.pos i0 (Ev.pos ll hr)))
    have hoi := ho i (by omega)
    by_cases c : rd lo i < 0
    · obtain ⟨r, r1, r2⟩ := ih (i + 1) (by omega) ps hps (fun w hw h => by
        obtain ⟨j, h1, h2⟩ := hB w hw h
        exact ⟨j, by omega, h2⟩) (fun j hj h => by
        rcases Nat.lt_or_ge j i with q | q
        · exact hC j q h
        · obtain rfl : j = i := by omega
          omega)
      refine ⟨r, S _ (g2 (fun ⟨j, _, _, h3, _⟩ => by omega) r r1), I _ ?_⟩
      rw [← wi] at r2
      exact Ev.pos c r2
    · have c0 : (0 : Int) ≤ rd lo i := by omega
      have lp : rd lo i < (ps.length : Int) := by rw [hps]; exact hoi.2
      have e : ((rd lo i).toNat : Int) = rd lo i := Int.toNat_of_nonneg c0
      by_cases z : rd ps (rd lo i) = 0
      · have no : ∀ j : Nat, j < i → rd lo i ≠ rd lo j := by
          intro j hj h
          have := hC j hj (by rw [← h]; exact c0)
          rw [← h, z] at this
          have := hp j (by omega)
          omega
        have pi := hp i (by omega)
        obtain ⟨r, r1, r2⟩ := ih (i + 1) (by omega) (ps.set (rd lo i).toNat (rd_T33 xs i).f4) (by simpa using hps) (fun w hw h => by
          by_cases q : (w : Int) = rd lo i
          · exact ⟨i, by omega, q.symm, by rw [q, rdset_self _ _ _ c0 lp]⟩
          · rw [rdset_ne _ _ _ _ c0 (by omega) q] at h ⊢
            obtain ⟨j, h1, h2⟩ := hB w hw h
            exact ⟨j, by omega, h2⟩) (fun j hj h => by
          rcases Nat.lt_or_ge j i with q | q
          · rw [rdset_ne _ _ _ _ c0 h (fun g => no j q g.symm)]
            exact hC j q h
          · obtain rfl : j = i := by omega
            exact rdset_self _ _ _ c0 lp)
        refine ⟨r, S _ (g2 (fun ⟨j, _, h2, _, h4, _⟩ => no j h2 h4) r r1), I _ ?_⟩
        rw [← wi] at r2
        exact Ev.neg c (Ev.pos c0 (Ev.pos lp (Ev.pos z (Ev.pos li r2))))
      · by_cases y : rd ps (rd lo i) = (rd_T33 xs i).f4
        · obtain ⟨r, r1, r2⟩ := ih (i + 1) (by omega) ps hps (fun w hw h => by
            obtain ⟨j, h1, h2⟩ := hB w hw h
            exact ⟨j, by omega, h2⟩) (fun j hj h => by
            rcases Nat.lt_or_ge j i with q | q
            · exact hC j q h
            · obtain rfl : j = i := by omega
              exact y)
          refine ⟨r, S _ (g2 (fun ⟨j, _, h2, h3, h4, h5⟩ => h5 ?_) r r1), I _ ?_⟩
          · rw [← y, h4]
            exact hC j h2 (by rw [← h4]; exact h3)
          · rw [← wi] at r2
            exact Ev.neg c (Ev.pos c0 (Ev.pos lp (Ev.neg z (Ev.pos li (Ev.pos y r2)))))
        · obtain ⟨j, j1, j2, j3⟩ := hB (rd lo i).toNat (by omega) (by rw [e]; exact z)
          rw [e] at j2 j3
          exact ⟨(false, true), S _ (g1 ⟨j, by omega, j1, c0, j2.symm, fun h => y (by rw [← j3, h])⟩), I _ (Ev.neg c (Ev.pos c0 (Ev.pos lp (Ev.neg z (Ev.pos li (Ev.neg y (Ev.now _)))))))⟩
theorem byDestination (ts : List S60) (ht : ts.length ≤ 1048577) (xs : List S33) (hx : xs.length ≤ 1048577) (lo : List Int) (hl : lo.length ≤ 1048577) : ∃ r : Bool × Bool, Ev (fun k => spec_ByDestination.f k ts xs lo) r ∧ Ev (fun k => impl_ByDestination.f k ts xs lo) r := by
  obtain ⟨b, h1, h2, h3⟩ := good ts ht xs hx lo hl
  unfold spec_ByDestination.f impl_ByDestination.f
  by_cases c : b = true
  · obtain ⟨_, hc, hle, ho, _⟩ := h3.1 c
    obtain ⟨r, r1, r2⟩ := destLoop ts.length xs hx (fun j hj => (hc.2 j hj).1.2.2.2.2.1) lo hle ho xs.length 0 (by omega) (List.replicate ts.length 0) (by simp) (fun w _ h => absurd (rd_rep _ _) h) (fun j hj => by omega)
    refine ⟨r, Ev.bind h1 (Ev.pos c r1), Ev.bind h2 (Ev.pos c (Ev.pos (by omega) (Ev.pos (by omega) ?_)))⟩
    rw [Int.toNat_natCast]
    exact r2
  · exact ⟨(false, false), Ev.bind h1 (Ev.neg c (Ev.now _)), Ev.bind h2 (Ev.neg c (Ev.now _))⟩

theorem byOne (xs : List S33) (hx : xs.length ≤ 1048577) (lo : List Int) (hl : lo.length = xs.length) (h : ∀ j : Nat, j < xs.length → (rd_T33 xs j).f4 = (rd_T33 xs 0).f4) : ∀ d i : Nat, i + d = xs.length → Ev (fun k => spec_ByDestination.l0 k xs lo i) (true, true) := by
  intro d
  induction d with
  | zero =>
    intro i hi
    exact Ev.step (fun k => spec_ByDestination.l0.eq_2 ..) (Ev.neg (by omega) (Ev.now _))
  | succ d ih =>
    intro i hi
    obtain ⟨_, g2⟩ := destInner xs hx lo hl i (by omega) i 0 (by omega)
    refine Ev.step (fun k => spec_ByDestination.l0.eq_2 ..) (Ev.pos (by omega) (g2 ?_ _ (ih (i + 1) (by omega))))
    rintro ⟨j, _, h2, _, _, h5⟩
    exact h5 ((h i (by omega)).trans (h j (by omega)).symm)
theorem byFacts (ts : List S60) (ht : ts.length ≤ 1048577) (xs : List S33) (hx : xs.length ≤ 1048577) (lo : List Int) (hl : lo.length ≤ 1048577) : ∃ r : Bool × Bool, Ev (fun k => spec_ByDestination.f k ts xs lo) r ∧ Ev (fun k => impl_ByDestination.f k ts xs lo) r ∧
    (r.2 = true → (∀ j : Nat, j < xs.length → (rd_T33 xs j).f4 = (rd_T33 xs 0).f4) → r.1 = true) := by
  obtain ⟨r, r1, r2⟩ := byDestination ts ht xs hx lo hl
  refine ⟨r, r1, r2, fun hr hp => ?_⟩
  obtain ⟨b, h1, _, h3⟩ := good ts ht xs hx lo hl
  unfold spec_ByDestination.f at r1
  by_cases c : b = true
  · rw [Ev.funct r1 (Ev.bind h1 (Ev.pos c (byOne xs hx lo (h3.1 c).2.2.1 hp xs.length 0 (by omega))))]
  · rw [Ev.funct r1 (Ev.bind h1 (Ev.neg c (Ev.now _)))] at hr
    cases hr


theorem leftLoop (xs : List S33) (hx : xs.length ≤ 1048577) (lo : List Int) (hl : lo.length = xs.length) : ∀ d i : Nat, i + d = xs.length → ∀ out : List ByteArray, out.length ≤ i → ∃ r : List ByteArray × Bool, r.1.length ≤ 1048577 ∧ Ev (fun k => spec_LeftBehindContainers.l0 k xs lo out i) r ∧ Ev (fun k => impl_LeftBehindContainers.l0 k xs out lo lo.length i) r := by
  intro d
  induction d with
  | zero =>
    intro i hi out ho
    exact ⟨(out, true), by show out.length ≤ _; omega, Ev.step (fun k => spec_LeftBehindContainers.l0.eq_2 ..) (Ev.neg (by omega) (Ev.now _)), Ev.step (fun k => impl_LeftBehindContainers.l0.eq_2 ..) (Ev.neg (by omega) (Ev.now _))⟩
  | succ d ih =>
    intro i hi out ho
    have li : (i : Int) < xs.length := by omega
    have ll : (i : Int) < lo.length := by omega
    have i0 : (0 : Int) ≤ i := by omega
    have w1 : wrap64 ((i : Int) + 1) = ((i + 1 : Nat) : Int) := by rw [w64 (by omega) (by omega)]; rfl
    by_cases c : rd lo i < 0
    · obtain ⟨r, r1, r2, r3⟩ := ih (i + 1) (by omega) (out ++ [(rd_T33 xs i).f0]) (by simp; omega)
      rw [← w1] at r2 r3
      exact ⟨r, r1, Ev.step (fun k => spec_LeftBehindContainers.l0.eq_2 ..) (Ev.pos li (Ev.pos i0 (Ev.pos ll (Ev.pos c (Ev.pos (by omega) r2))))), Ev.step (fun k => impl_LeftBehindContainers.l0.eq_2 ..) (Ev.pos ll (Ev.pos i0 (Ev.pos ll (Ev.pos c (Ev.pos li (Ev.pos (by omega) r3))))))⟩
    · obtain ⟨r, r1, r2, r3⟩ := ih (i + 1) (by omega) out (by omega)
      rw [← w1] at r2 r3
      exact ⟨r, r1, Ev.step (fun k => spec_LeftBehindContainers.l0.eq_2 ..) (Ev.pos li (Ev.pos i0 (Ev.pos ll (Ev.neg c r2)))), Ev.step (fun k => impl_LeftBehindContainers.l0.eq_2 ..) (Ev.pos ll (Ev.pos i0 (Ev.pos ll (Ev.neg c r3))))⟩
theorem leftBehind (ts : List S60) (ht : ts.length ≤ 1048577) (xs : List S33) (hx : xs.length ≤ 1048577) (lo : List Int) (hl : lo.length ≤ 1048577) : ∃ r : List ByteArray × Bool, Ev (fun k => spec_LeftBehindContainers.f k ts xs lo) r ∧ Ev (fun k => impl_LeftBehindContainers.f k ts xs lo) r ∧ r.1.length ≤ 1048577 := by
  obtain ⟨b, h1, h2, h3⟩ := good ts ht xs hx lo hl
  unfold spec_LeftBehindContainers.f impl_LeftBehindContainers.f
  by_cases c : b = true
  · obtain ⟨r, r1, r2, r3⟩ := leftLoop xs hx lo (h3.1 c).2.2.1 xs.length 0 (by omega) [] (by simp)
    exact ⟨r, Ev.some (Ev.bind h1 (Ev.pos c r2)), Ev.bind h2 (Ev.pos c r3), r1⟩
  · exact ⟨([], false), Ev.some (Ev.bind h1 (Ev.neg c (Ev.now _))), Ev.bind h2 (Ev.neg c (Ev.now _)), by simp⟩

theorem rInts (xs : List Int) (hl : xs.length ≤ 1048577) : Ev (fun k => laws_rInts.f k xs xs) true := by
  unfold laws_rInts.f
  have main : ∀ d i : Nat, i + d = xs.length → Ev (fun k => laws_rInts.l0 k xs xs i) true := by
    intro d
    induction d with
    | zero =>
      intro i hi
      exact Ev.step (fun k => laws_rInts.l0.eq_2 ..) (Ev.neg (by omega) (Ev.now _))
    | succ d ih =>
      intro i hi
      refine Ev.step (fun k => laws_rInts.l0.eq_2 ..) (Ev.pos (by omega) (Ev.pos (by omega) (Ev.pos (by omega) (Ev.pos rfl ?_))))
      rw [show wrap64 ((i : Int) + 1) = ((i + 1 : Nat) : Int) from by rw [w64 (by omega) (by omega)]; rfl]
      exact ih (i + 1) (by omega)
  exact Ev.pos rfl (main xs.length 0 (by omega))
theorem rTexts (xs : List ByteArray) (hl : xs.length ≤ 1048577) : Ev (fun k => laws_rTexts.f k xs xs) true := by
  unfold laws_rTexts.f
  have main : ∀ d i : Nat, i + d = xs.length → Ev (fun k => laws_rTexts.l0 k xs xs i) true := by
    intro d
    induction d with
    | zero =>
      intro i hi
      exact Ev.step (fun k => laws_rTexts.l0.eq_2 ..) (Ev.neg (by omega) (Ev.now _))
    | succ d ih =>
      intro i hi
      refine Ev.step (fun k => laws_rTexts.l0.eq_2 ..) (Ev.pos (by omega) (Ev.pos (by omega) (Ev.pos (by omega) (Ev.pos rfl ?_))))
      rw [show wrap64 ((i : Int) + 1) = ((i + 1 : Nat) : Int) from by rw [w64 (by omega) (by omega)]; rfl]
      exact ih (i + 1) (by omega)
  exact Ev.pos rfl (main xs.length 0 (by omega))
theorem wagons5 {c : List Int} (hc : Bytes c) : Has (fun k => laws_FnWagons.j5 k c false) (fun r => r = true) := by
  refine Has.step (fun k => laws_FnWagons.j5.eq_2 ..) (Has.neg (by simp) ?_)
  unfold spec_DrawLeftBehindContainers.f
  have dr : Has (fun k => (spec_DrawIsValidLoading.f k c).bind fun bt548 => (some (bt548.1, bt548.2.1, bt548.2.2))) (fun r => r.1.length ≤ 30 ∧ r.2.1.length ≤ 30 ∧ r.2.2.length ≤ 31) :=
    Has.bind (draw_loadings hc) fun a ha => Has.now ha
  refine Has.bind dr fun x ⟨x1, x2, x3⟩ => ?_
  obtain ⟨r, h1, h2, h3⟩ := leftBehind x.1 (by omega) x.2.1 (by omega) x.2.2 (by omega)
  exact Has.ev h2 (Has.ev h1 (Has.pos (by simp) (Has.ev (rTexts r.1 h3) (Has.now rfl))))
theorem wagons3 {c : List Int} (hc : Bytes c) (xs : List S33) (hx : xs.length ≤ 30) (yes fine : Bool) (h : fine = true → (∀ j : Nat, j < xs.length → (rd_T33 xs j).f4 = (rd_T33 xs 0).f4) → yes = true) : Has (fun k => laws_FnWagons.j3 k c xs yes fine false) (fun r => r = true) := by
  have main : ∀ d i : Nat, i + d = xs.length → ∀ b : Bool, (b = true → ∀ j : Nat, j < i → (rd_T33 xs j).f4 = (rd_T33 xs 0).f4) → Has (fun k => laws_FnWagons.l1 k c xs yes fine b i) (fun r => r = true) := by
    intro d
    induction d with
    | zero =>
      intro i hi b hb
      refine Has.step (fun k => laws_FnWagons.l1.eq_2 ..) (Has.neg (by omega) (Has.ite (fun hf => Has.ite (fun hb' => ?_) (fun _ => wagons5 hc)) (fun _ => wagons5 hc)))
      rw [h hf (fun j hj => hb hb' j (by omega))]
      exact wagons5 hc
    | succ d ih =>
      intro i hi b hb
      refine Has.step (fun k => laws_FnWagons.l1.eq_2 ..) (Has.pos (by omega) ?_)
      rw [show wrap64 ((i : Int) + 1) = ((i + 1 : Nat) : Int) from by rw [w64 (by omega) (by omega)]; rfl]
      refine Has.ite (fun hb' => Has.pos (by omega) (Has.pos (by omega) (ih (i + 1) (by omega) _ fun he j hj => ?_))) (fun _ => ih (i + 1) (by omega) false (fun q => by cases q))
      rcases Nat.lt_or_ge j i with q | q
      · exact hb hb' j q
      · obtain rfl : j = i := by omega
        exact beq_iff_eq.1 he
  exact Has.step (fun k => laws_FnWagons.j3.eq_2 ..) (Has.neg (by simp) (main xs.length 0 (by omega) true (fun _ j hj => by omega)))
theorem wagons2 {c : List Int} (hc : Bytes c) : Has (fun k => laws_FnWagons.j2 k c) (fun r => r = true) := by
  refine Has.step (fun k => laws_FnWagons.j2.eq_2 ..) ?_
  unfold spec_DrawByDestination.f
  have dr : Has (fun k => (spec_DrawIsValidLoading.f k c).bind fun bt523 => (some (bt523.1, bt523.2.1, bt523.2.2))) (fun r => r.1.length ≤ 30 ∧ r.2.1.length ≤ 30 ∧ r.2.2.length ≤ 31) :=
    Has.bind (draw_loadings hc) fun a ha => Has.now ha
  refine Has.bind dr fun x ⟨x1, x2, x3⟩ => ?_
  obtain ⟨r, h1, h2, h3⟩ := byFacts x.1 (by omega) x.2.1 (by omega) x.2.2 (by omega)
  refine Has.ev h2 (Has.ev h1 (Has.neg (by simp) ?_))
  rw [show (r.2 != r.2) = false from by simp]
  exact wagons3 hc x.2.1 x2 r.1 r.2 h3
theorem wagons0 {c : List Int} (hc : Bytes c) (ts : List S60) (ht : ts.length ≤ 30) (xs : List S33) (hx : xs.length ≤ 30) (lo : List Int) (id : ByteArray) (w : Int) (moved : List Int)
    (n : Nat) (hn : n < xs.length) (hl : lo.length = xs.length) (hm : moved = lo.set n w) (hu : ∀ j : Nat, j < xs.length → (rd_T33 xs j).f0 = id → j = n) (hL : Load ts xs moved) :
    ∀ d i : Nat, i + d = xs.length → ∀ ch : Int, ch ≤ 1 → (i ≤ n → ch = 0) → Has (fun k => laws_FnWagons.l0 k c ts xs lo id w moved ch i) (fun r => r = true) := by
  have hlen : moved.length = xs.length := by rw [hm, List.length_set, hl]
  have hmn : rd moved n = w := by
    have := rdset_self lo n w (by omega) (by omega)
    rwa [Int.toNat_natCast, ← hm] at this
  have hmo : ∀ j : Nat, j ≠ n → rd moved j = rd lo j := by
    intro j hj
    have := rdset_ne lo n j w (by omega) (by omega) (by omega)
    rwa [Int.toNat_natCast, ← hm] at this
  intro d
  induction d with
  | zero =>
    intro i hi ch h1 _
    obtain ⟨b, _, b2, b3⟩ := good ts (by omega) xs (by omega) moved (by omega)
    exact Has.step (fun k => laws_FnWagons.l0.eq_2 ..) (Has.neg (by omega) (Has.neg (by omega) (Has.ev b2 (Has.pos (b3.2 hL) (wagons2 hc)))))
  | succ d ih =>
    intro i hi ch h1 h2
    refine Has.step (fun k => laws_FnWagons.l0.eq_2 ..) (Has.pos (by omega) (Has.pos (by omega) (Has.pos (by omega) (Has.pos (by omega) ?_))))
    rw [show wrap64 ((i : Int) + 1) = ((i + 1 : Nat) : Int) from by rw [w64 (by omega) (by omega)]; rfl]
    by_cases e : i = n
    · refine Has.ite (fun _ => ?_) (fun _ => ?_)
      · refine Has.ite (fun _ => Has.pos (by rw [e]; exact hmn) ?_) (fun _ => ?_)
        · exact ih (i + 1) (by omega) ch h1 (fun q => by omega)
        · exact ih (i + 1) (by omega) ch h1 (fun q => by omega)
      · rw [h2 (by omega), show wrap64 ((0 : Int) + 1) = 1 from by rw [w64 (by omega) (by omega)]; rfl]
        refine Has.ite (fun _ => Has.pos (by rw [e]; exact hmn) ?_) (fun _ => ?_)
        · exact ih (i + 1) (by omega) 1 (by omega) (fun q => by omega)
        · exact ih (i + 1) (by omega) 1 (by omega) (fun q => by omega)
    · refine Has.pos (hmo i e) (Has.neg (fun h => e (hu i (by omega) (str_eq.1 h))) ?_)
      exact ih (i + 1) (by omega) ch h1 (fun q => h2 (by omega))
theorem FnWagons : ∀ (l0 : (List Int)), (l0.length ≤ 9223372036854775807 ∧ ∀ x ∈ l0, (Lit.int .u8 x).wf = true) → ∃ k, laws_FnWagons.f k l0 = some true := by
  intro l0 ⟨_, hw⟩
  have hc : Bytes l0 := bytes_wf hw
  suffices h : Has (fun k => laws_FnWagons.f k l0) (fun r => r = true) by
    obtain ⟨r, hr, rfl⟩ := h
    exact Ev.rounds hr
  unfold laws_FnWagons.f laws_rBig.f
  refine Has.val (Has.ite (fun _ => Has.now rfl) (fun _ => ?_))
  unfold spec_DrawMoveToWagon.f
  refine Has.bind (P := fun r => r.1.length ≤ 30 ∧ r.2.1.length ≤ 30 ∧ r.2.2.1.length ≤ 31) ?_ fun x ⟨x1, x2, x3⟩ => ?_
  · have fin : ∀ (ts : List S60) (xs : List S33) (lo : List Int) (s : ByteArray) (b : Bool) (a u : Int), ts.length ≤ 30 → xs.length ≤ 30 → lo.length ≤ 31 → 0 ≤ a → a ≤ 1000000 → (b = true → 0 < xs.length) →
        Has (fun k => spec_DrawMoveToWagon.j0 k ts xs lo s b l0 a u) (fun r => r.1.length ≤ 30 ∧ r.2.1.length ≤ 30 ∧ r.2.2.1.length ≤ 31) := by
      intro ts xs lo s b a u t1 x1 o1 a0 a1 hb
      refine Has.step (fun k => spec_DrawMoveToWagon.j0.eq_2 ..) (Has.ite (fun hb' => ?_) (fun _ => ?_))
      · have hp := hb hb'
        refine Has.bind (pick hc u _ a0 (by omega)) fun i ⟨i0, i1, i2, i3, i4⟩ => ?_
        have i5 : i.1 < (xs.length : Int) := by
          rcases Int.lt_or_le 1 (xs.length : Int) with h | h
          · exact i1 h
          · have := i2 h
            omega
        exact Has.pos i0 (Has.pos i5 (Has.bind (pick hc i.2.2 _ (by omega) (by omega)) fun j _ => Has.now ⟨t1, x1, o1⟩))
      · exact Has.bind (pick hc u _ a0 (by omega)) fun j _ => Has.now ⟨t1, x1, o1⟩
    refine Has.bind (draw_train hc 0 (by omega) (by omega)) fun t ⟨t1, t2, t3⟩ => Has.bind (draw_conts hc t.2.2 (by omega) (by omega)) fun x ⟨x1, x2, x3⟩ => Has.bind (draw_loading hc x.2.2 t.1 t1 x.1 x1 (by omega) (by omega)) fun o ⟨o1, o2, o3⟩ => ?_
    refine Has.ite (fun hp => Has.bind (one hc o.2.2 12 (by omega) (by omega)) fun q ⟨q1, q2⟩ => fin _ _ _ _ _ _ _ t1 x1 o1 (by omega) (by omega) (fun _ => by omega)) (fun _ => fin _ _ _ _ _ _ _ t1 x1 o1 (by omega) (by omega) (fun h => by cases h))
  obtain ⟨r, h1, h2, h3, h4⟩ := moveFacts x.1 (by omega) x.2.1 (by omega) x.2.2.1 (by omega) x.2.2.2.1 x.2.2.2.2
  refine Has.ev h2 (Has.ev h1 (Has.neg (by simp) (Has.ev (rInts r.1 h3) (Has.step (fun k => laws_FnWagons.j0.eq_2 ..) (Has.neg (by simp) (Has.ite (fun hr => ?_) (fun _ => wagons2 hc)))))))
  obtain ⟨n, n1, n2, n3, n4, n5⟩ := h4 hr
  exact wagons0 hc x.1 x1 x.2.1 x2 x.2.2.1 x.2.2.2.1 x.2.2.2.2 r.1 n n1 n2 n3 n4 n5 x.2.1.length 0 (by omega) 0 (by omega) (fun _ => rfl)
end Go.Proofs.Ytempmebpbbbkmaa.Pure
