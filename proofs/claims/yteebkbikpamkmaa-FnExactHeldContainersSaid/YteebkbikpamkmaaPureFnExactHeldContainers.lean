/- The program's HeldContainers returns what the reference's returns, for all arguments; the argument reads as it did, and the result is new memory. No condition. -/
import Derived.Test.YteebkbikpamkmaaInvFnExactHeldContainers
import Derived.Test.YteebkbikpamkmaaWHelp
import Derived.Sort.Walk0
namespace Go.Proofs.Yteebkbikpamkmaa.Pure
open Go.RowKit Go.Proofs.YteebkbikpamkmaaW.PrintWords Go.Proofs.YteebkbikpamkmaaW.PrintLast Go.Proofs.YteebkbikpamkmaaW.PrintMore Go.Proofs.YteebkbikpamkmaaW.Help Go.Proofs.Yteebkbikpamkmaa.PFnExactHeldContainers
set_option linter.unusedVariables false

theorem str_ext {s t : ByteArray} (h : s.data.toList = t.data.toList) : s = t := by
  obtain ⟨⟨a⟩⟩ := s
  obtain ⟨⟨b⟩⟩ := t
  have h' : a = b := h
  rw [h']
theorem str_eq {s t : ByteArray} : s.toList = t.toList ↔ s = t := by
  rw [ByteArray.toList_eq, ByteArray.toList_eq]
  exact ⟨str_ext, fun h => by rw [h]⟩

theorem szEntryS (l : List S72) (hl : l.length ≤ 9223372036854775807) (hx : ∀ x ∈ l, x.f1.size ≤ 9223372036854775807) : ∃ r : Int, Ev (fun k => laws_szEntryS.f k l 1048576) r ∧ (0 ≤ r → l.length ≤ 1048576 ∧ ∀ x ∈ l, x.f1.size ≤ 1048576) := by
  unfold laws_szEntryS.f
  rw [w64 (by omega) (by omega)]
  by_cases c : (1048576 : Int) < l.length
  · exact ⟨-1, Ev.pos (by omega) (Ev.now _), fun h => by omega⟩
  · have main : ∀ d i : Nat, i + d = l.length → ∀ a : Int, 0 ≤ a → a ≤ 1048576 → ∃ r : Int, Ev (fun k => laws_szEntryS.l0 k l a i) r ∧ (0 ≤ r → ∀ j : Nat, i ≤ j → (h : j < l.length) → l[j].f1.size ≤ 1048576) := by
      intro d
      induction d with
      | zero =>
        intro i hi a h0 h1
        exact ⟨a, Ev.step (fun k => laws_szEntryS.l0.eq_2 ..) (Ev.neg (by omega) (Ev.now _)), fun _ j hj h => by omega⟩
      | succ d ih =>
        intro i hi a h0 h1
        have e : rd_T72 l (i : Int) = l[i]'(by omega) := by
          unfold rd_T72
          rw [Int.toNat_natCast]
          exact getD_of (List.getElem?_eq_getElem (by omega))
        have hxi := hx (l[i]'(by omega)) (List.getElem_mem _)
        have w1 : wrap64 ((i : Int) + 1) = ((i + 1 : Nat) : Int) := by rw [w64 (by omega) (by omega)]; rfl
        have w2 : wrap64 (a - ((l[i]'(by omega)).f1.size : Int)) = a - ((l[i]'(by omega)).f1.size : Int) := w64 (by omega) (by omega)
        have sz : laws_szEntry.f (l[i]'(by omega)).f0 (l[i]'(by omega)).f1 (l[i]'(by omega)).f2 (l[i]'(by omega)).f3 a = some (if a < (l[i]'(by omega)).f1.size then -1 else a - (l[i]'(by omega)).f1.size) := by
          unfold laws_szEntry.f
          rw [w2]
          by_cases q : a < (l[i]'(by omega)).f1.size
          · rw [if_pos (by omega), if_pos q]
          · rw [if_neg (by omega), if_neg q]
        clear w2
        by_cases q : a < (l[i]'(by omega)).f1.size
        · rw [if_pos q] at sz
          refine ⟨-1, Ev.step (fun k => laws_szEntryS.l0.eq_2 ..) (Ev.pos (by omega) (Ev.pos (by omega) ?_)), fun h => by omega⟩
          rw [e]
          exact Ev.const sz (Ev.pos (by omega) (Ev.now _))
        · rw [if_neg q] at sz
          obtain ⟨r, r1, r2⟩ := ih (i + 1) (by omega) (a - (l[i]'(by omega)).f1.size) (by omega) (by omega)
          refine ⟨r, Ev.step (fun k => laws_szEntryS.l0.eq_2 ..) (Ev.pos (by omega) (Ev.pos (by omega) ?_)), fun h j hj hlt => ?_⟩
          · rw [e, w1]
            exact Ev.const sz (Ev.neg (by omega) r1)
          · rcases Nat.lt_or_ge i j with h3 | h3
            · exact r2 h j h3 hlt
            · obtain rfl : j = i := by omega
              omega
    obtain ⟨r, r1, r2⟩ := main l.length 0 (by omega) (1048576 - l.length) (by omega) (by omega)
    refine ⟨r, Ev.neg (by omega) r1, fun h => ⟨by omega, fun x hx' => ?_⟩⟩
    obtain ⟨j, hj, rfl⟩ := List.getElem_of_mem hx'
    exact r2 h j (by omega) hj

def convEntry (x : S72) : S52 := ⟨x.f0, x.f1, x.f2, x.f3⟩
theorem toEntryS (l : List S72) (hl : l.length ≤ 1048576) : Ev (fun k => laws_toEntryS.f k l) (l.map convEntry) := by
  unfold laws_toEntryS.f
  refine Ev.pos (by omega) (Ev.pos (by omega) ?_)
  simp only [Int.toNat_natCast]
  refine fill_ev l convEntry z52 (fun k ys i => laws_toEntryS.l0 k l ys i) ?_ ?_
  · intro i h ys hy r hr
    refine Ev.step (fun k => laws_toEntryS.l0.eq_2 ..) (Ev.pos (by omega) (Ev.pos (by omega) ?_))
    refine Ev.const (a := (l[i].f0, l[i].f1, l[i].f2, l[i].f3)) (by simp [laws_toEntry.f, rd_T72, h]) ?_
    refine Ev.pos (by omega) ?_
    rw [w64 (by omega) (by omega)]
    exact hr
  · intro ys hy
    exact Ev.step (fun k => laws_toEntryS.l0.eq_2 ..) (Ev.neg (by omega) (Ev.now _))
theorem eqEntryS (l : List S52) (hl : l.length ≤ 1048577) : Ev (fun k => laws_eqEntryS.f k l l) true := by
  unfold laws_eqEntryS.f
  refine Ev.pos rfl ?_
  refine down_ev l.length (fun k i => laws_eqEntryS.l0 k l l i) ?_ ?_
  · intro i h hr
    refine Ev.step (fun k => laws_eqEntryS.l0.eq_2 ..) (Ev.pos (by omega) (Ev.pos (by omega) (Ev.pos (by omega) ?_)))
    refine Ev.const (a := true) (by simp [laws_eqEntry.f]) (Ev.pos rfl ?_)
    rw [w64 (by omega) (by omega)]
    exact hr
  · exact Ev.step (fun k => laws_eqEntryS.l0.eq_2 ..) (Ev.neg (by omega) (Ev.now _))

theorem l1In_eq (a b c : Int) : spec_l1In.f a b c = some (decide (b ≤ a ∧ a ≤ c)) := by
  unfold spec_l1In.f
  by_cases h : b ≤ a <;> simp [h]

theorem within_eq (a b c : Int) : impl_within.f a b c = some (decide (b ≤ a ∧ a ≤ c)) := by
  unfold impl_within.f
  by_cases h : b ≤ a <;> simp [h]

/-- Byte i of seven is as it should be: a letter, a digit. -/
def okB (s : ByteArray) (i : Nat) : Prop := (i < 3 → 65 ≤ bt s i ∧ bt s i ≤ 90) ∧ (3 ≤ i → 48 ≤ bt s i ∧ bt s i ≤ 57)
theorem bt_bd (s : ByteArray) (i : Int) : 0 ≤ bt s i ∧ bt s i ≤ 255 := by
  unfold bt
  split
  · rename_i h
    have := (s[i.toNat]'h).toNat_lt
    omega
  · omega
theorem letters (s : ByteArray) (hs : s.size = 7) : ∀ d i : Nat, i + d = 7 → ∀ a : Int, 0 ≤ a → a ≤ 1000 * i → ∃ (b : Bool) (c : Int), Ev (fun k => spec_l2Seven.l0 k s i) b ∧ Ev (fun k => impl_checkLetter.l0 k s a 7 i) (if b = true then (c, true) else (0, false)) ∧ (b = true → Ev (fun k => spec_l2Check.l0 k s a i) c) := by
  intro d
  induction d with
  | zero =>
    intro i hi a h0 h1
    obtain rfl : i = 7 := by omega
    have e : Int.tmod a 23 = a % 23 := Int.tmod_eq_emod_of_nonneg h0
    have e1 : wrap64 (65 + a % 23) = 65 + a % 23 := w64 (by omega) (by omega)
    refine ⟨true, (65 + (a % 23) % 256) % 256, Ev.step (fun k => spec_l2Seven.l0.eq_2 ..) (Ev.neg (by omega) (Ev.now _)), Ev.step (fun k => impl_checkLetter.l0.eq_2 ..) (Ev.neg (by omega) (Ev.eq (Ev.now _) ?_)), fun _ => Ev.step (fun k => spec_l2Check.l0.eq_2 ..) (Ev.neg (by omega) (Ev.eq (Ev.now _) ?_))⟩
    · rw [e, e1, if_pos rfl]
      congr 1
      omega
    · rw [e]
  | succ d ih =>
    intro i hi a h0 h1
    have w1 : wrap64 ((i : Int) + 1) = ((i + 1 : Nat) : Int) := by rw [w64 (by omega) (by omega)]; rfl
    have w2 : wrap64 ((i : Int) + 2) = (i : Int) + 2 := w64 (by omega) (by omega)
    have hb := bt_bd s i
    have hsz : (s.size : Int) = 7 := by omega
    generalize hv : bt s i = v at hb
    have w3 : wrap64 v = v := w64 (by omega) (by omega)
    have w4 : wrap64 (v - 65) = v - 65 := w64 (by omega) (by omega)
    have w5 : wrap64 (v - 65 + 1) = v - 65 + 1 := w64 (by omega) (by omega)
    have w6 : wrap64 (v - 48) = v - 48 := w64 (by omega) (by omega)
    by_cases c3 : i < 3
    · by_cases c : 65 ≤ v ∧ v ≤ 90
      · have m1 : (v - 65) % 256 = v - 65 := by omega
        have p1 : 0 ≤ ((i : Int) + 2) * (v - 65 + 1) ∧ ((i : Int) + 2) * (v - 65 + 1) ≤ 26 * ((i : Int) + 2) := by
          have h3 : ((i : Int) + 2) * (v - 65 + 1) ≤ ((i : Int) + 2) * 26 := Int.mul_le_mul_of_nonneg_left (by omega) (by omega)
          exact ⟨Int.mul_nonneg (by omega) (by omega), by omega⟩
        have w7 : wrap64 (((i : Int) + 2) * (v - 65 + 1)) = ((i : Int) + 2) * (v - 65 + 1) := w64 (by omega) (by omega)
        have w8 : wrap64 (a + ((i : Int) + 2) * (v - 65 + 1)) = a + ((i : Int) + 2) * (v - 65 + 1) := w64 (by omega) (by omega)
        obtain ⟨b, cc, s1, s2, s3⟩ := ih (i + 1) (by omega) (a + ((i : Int) + 2) * (v - 65 + 1)) (by omega) (by omega)
        refine ⟨b, cc, Ev.step (fun k => spec_l2Seven.l0.eq_2 ..) ?_, Ev.step (fun k => impl_checkLetter.l0.eq_2 ..) ?_, fun h => Ev.step (fun k => spec_l2Check.l0.eq_2 ..) ?_⟩
        · rw [hv, w1, hsz]
          exact Ev.pos (by omega) (Ev.pos (by omega) (Ev.pos (by omega) (Ev.pos (by omega) (Ev.neg (by omega) (Ev.neg (by omega) (Ev.neg (by omega) s1))))))
        · rw [hv, hsz]
          refine Ev.pos (by omega) (Ev.pos (by omega) (Ev.pos (by omega) (Ev.pos (by omega) (Ev.pos (by omega) ?_))))
          refine Ev.step (fun k => impl_checkLetter.j1.eq_2 ..) (Ev.pos (by simp; omega) ?_)
          rw [w1, w2, m1, w7, w8]
          exact s2
        · rw [hv, hsz]
          refine Ev.pos (by omega) (Ev.pos (by omega) (Ev.pos (by omega) (Ev.pos (by omega) ?_)))
          rw [w1, w2, w3, w4, w5, Int.mul_comm (v - 65 + 1), w7, w8]
          exact s3 h
      · refine ⟨false, 0, Ev.step (fun k => spec_l2Seven.l0.eq_2 ..) ?_, Ev.step (fun k => impl_checkLetter.l0.eq_2 ..) ?_, fun h => by cases h⟩
        · rw [hv, hsz]
          refine Ev.pos (by omega) (Ev.pos (by omega) (Ev.pos (by omega) (Ev.pos (by omega) ?_)))
          exact Ev.ite (fun _ => Ev.now _) (fun q => Ev.pos (by omega) (Ev.now _))
        · rw [hv, hsz]
          refine Ev.pos (by omega) (Ev.pos (by omega) (Ev.pos (by omega) (Ev.pos (by omega) ?_)))
          have jj : Ev (fun k => impl_checkLetter.j1 k s a i v 7 i false) (0, false) := Ev.step (fun k => impl_checkLetter.j1.eq_2 ..) (Ev.neg (by simp) (Ev.neg (by omega) (Ev.now _)))
          refine Ev.ite (fun q => ?_) (fun _ => jj)
          rw [show decide (v ≤ 90) = false from by simp; omega]
          exact jj
    · by_cases c : 48 ≤ v ∧ v ≤ 57
      · have m1 : (v - 48) % 256 = v - 48 := by omega
        have p1 : 0 ≤ ((i : Int) + 2) * (v - 48) ∧ ((i : Int) + 2) * (v - 48) ≤ 9 * ((i : Int) + 2) := by
          have h3 : ((i : Int) + 2) * (v - 48) ≤ ((i : Int) + 2) * 9 := Int.mul_le_mul_of_nonneg_left (by omega) (by omega)
          exact ⟨Int.mul_nonneg (by omega) (by omega), by omega⟩
        have w7 : wrap64 (((i : Int) + 2) * (v - 48)) = ((i : Int) + 2) * (v - 48) := w64 (by omega) (by omega)
        have w8 : wrap64 (a + ((i : Int) + 2) * (v - 48)) = a + ((i : Int) + 2) * (v - 48) := w64 (by omega) (by omega)
        obtain ⟨b, cc, s1, s2, s3⟩ := ih (i + 1) (by omega) (a + ((i : Int) + 2) * (v - 48)) (by omega) (by omega)
        refine ⟨b, cc, Ev.step (fun k => spec_l2Seven.l0.eq_2 ..) ?_, Ev.step (fun k => impl_checkLetter.l0.eq_2 ..) ?_, fun h => Ev.step (fun k => spec_l2Check.l0.eq_2 ..) ?_⟩
        · rw [hv, w1, hsz]
          exact Ev.pos (by omega) (Ev.neg (by omega) (Ev.pos (by omega) (Ev.pos (by omega) (Ev.pos (by omega) (Ev.neg (by omega) (Ev.neg (by omega) s1))))))
        · rw [hv, hsz]
          refine Ev.pos (by omega) (Ev.pos (by omega) (Ev.pos (by omega) (Ev.neg (by omega) ?_)))
          refine Ev.step (fun k => impl_checkLetter.j1.eq_2 ..) (Ev.neg (by simp) (Ev.pos (by omega) (Ev.pos (by omega) (Ev.pos (by omega) ?_))))
          rw [w1, w2, m1, w7, w8]
          exact s2
        · rw [hv, hsz]
          refine Ev.pos (by omega) (Ev.pos (by omega) (Ev.pos (by omega) (Ev.neg (by omega) ?_)))
          rw [w1, w2, w3, w6, Int.mul_comm (v - 48), w7, w8]
          exact s3 h
      · refine ⟨false, 0, Ev.step (fun k => spec_l2Seven.l0.eq_2 ..) ?_, Ev.step (fun k => impl_checkLetter.l0.eq_2 ..) ?_, fun h => by cases h⟩
        · rw [hv, hsz]
          refine Ev.pos (by omega) (Ev.neg (by omega) (Ev.pos (by omega) (Ev.pos (by omega) (Ev.pos (by omega) ?_))))
          exact Ev.ite (fun _ => Ev.now _) (fun q => Ev.pos (by omega) (Ev.now _))
        · rw [hv, hsz]
          refine Ev.pos (by omega) (Ev.pos (by omega) (Ev.pos (by omega) (Ev.neg (by omega) ?_)))
          refine Ev.step (fun k => impl_checkLetter.j1.eq_2 ..) (Ev.neg (by simp) (Ev.pos (by omega) (Ev.ite (fun q => Ev.neg (by omega) (Ev.now _)) (fun _ => Ev.now _))))

/-- Is a text an identifier: the reference's test and the program's. -/
theorem ids (s : ByteArray) : ∃ b : Bool, Ev (fun k => spec_l2Id.f k s) b ∧ Ev (fun k => impl_IsValidId.f k s) b ∧ (b = true → s.size = 8) := by
  unfold spec_l2Id.f impl_IsValidId.f
  by_cases c : (s.size : Int) = 8
  · have hx : (s.extract 0 7).size = 7 := by
      rw [ByteArray.size_extract]
      omega
    obtain ⟨b, l, h1, h2, h3⟩ := letters (s.extract 0 7) hx 7 0 (by omega) 0 (by omega) (by omega)
    have g1 : Ev (fun k => spec_l2Seven.f k (s.extract 0 7)) b := by
      unfold spec_l2Seven.f
      exact Ev.pos (by omega) h1
    have g2 : Ev (fun k => impl_checkLetter.f k (s.extract 0 7)) (if b = true then (l, true) else (0, false)) := by
      unfold impl_checkLetter.f
      rw [show ((s.extract 0 7).size : Int) = 7 by omega]
      exact Ev.pos rfl h2
    cases b with
    | false => exact ⟨false, Ev.pos c (Ev.pos (by omega) (Ev.pos (by omega) (Ev.bind g1 (Ev.neg (by simp) (Ev.now _))))), Ev.pos c (Ev.pos (by omega) (Ev.pos (by omega) (Ev.bind g2 (Ev.neg (by simp) (Ev.now _))))), fun h => by cases h⟩
    | true =>
      refine ⟨bt s 7 == l, Ev.pos c (Ev.pos (by omega) (Ev.pos (by omega) (Ev.bind g1 (Ev.pos rfl (Ev.pos (by omega) (Ev.bind (a := l) ?_ (Ev.now _))))))), Ev.pos c (Ev.pos (by omega) (Ev.pos (by omega) (Ev.bind g2 (Ev.pos rfl (Ev.pos (by omega) (Ev.now _)))))), fun _ => by omega⟩
      unfold spec_l2Check.f
      exact h3 rfl
  · exact ⟨false, Ev.neg c (Ev.now _), Ev.neg c (Ev.now _), fun h => by cases h⟩
/-- Is a text an identifier? -/
noncomputable def isId (s : ByteArray) : Bool := Classical.choose (ids s)
theorem isId_spec (s : ByteArray) : Ev (fun k => spec_l2Id.f k s) (isId s) := (Classical.choose_spec (ids s)).1
theorem isId_impl (s : ByteArray) : Ev (fun k => impl_IsValidId.f k s) (isId s) := (Classical.choose_spec (ids s)).2.1
theorem isId_size (s : ByteArray) (h : isId s = true) : s.size = 8 := (Classical.choose_spec (ids s)).2.2 h

/-- Four bits: what the two ways of setting and clearing come to. -/
theorem bits_or (a b : Int) (ha : 0 ≤ a ∧ a ≤ 15) (hb : 0 ≤ b ∧ b ≤ 15) : (Go.bits .and .i64 a b = 0 → Go.bits .or .i64 a b = Go.bits .xor .i64 a b) ∧ (Go.bits .and .i64 a b = b → Go.bits .andNot .i64 a b = Go.bits .xor .i64 a b) ∧ 0 ≤ Go.bits .xor .i64 a b ∧ Go.bits .xor .i64 a b ≤ 15 := by
  have key : ∀ x : Fin 16, ∀ y : Fin 16, (Go.bits .and .i64 (x.val : Int) (y.val : Int) = 0 → Go.bits .or .i64 (x.val : Int) (y.val : Int) = Go.bits .xor .i64 (x.val : Int) (y.val : Int)) ∧
      (Go.bits .and .i64 (x.val : Int) (y.val : Int) = (y.val : Int) → Go.bits .andNot .i64 (x.val : Int) (y.val : Int) = Go.bits .xor .i64 (x.val : Int) (y.val : Int)) ∧ 0 ≤ Go.bits .xor .i64 (x.val : Int) (y.val : Int) ∧ Go.bits .xor .i64 (x.val : Int) (y.val : Int) ≤ 15 := by decide +kernel
  have := key ⟨a.toNat, by omega⟩ ⟨b.toNat, by omega⟩
  simp only [] at this
  rw [Int.toNat_of_nonneg ha.1, Int.toNat_of_nonneg hb.1] at this
  exact this

/-- The holds on a container after the first n entries. -/
def holdN (xs : List S52) : Nat → ByteArray → Int
  | 0, _ => 0
  | n + 1, s => if (rd_T52 xs n).f1 = s then Go.bits .xor .i64 (holdN xs n s) (rd_T52 xs n).f3 else holdN xs n s
theorem at_eq (xs : List S52) (hl : xs.length ≤ 1048577) (n : Nat) (hn : n ≤ xs.length) (s : ByteArray) : Ev (fun k => spec_l20At.f k xs n s) (holdN xs n s) := by
  unfold spec_l20At.f
  have main : ∀ d i : Nat, i + d = n → Ev (fun k => spec_l20At.l0 k xs n s (holdN xs i s) i) (holdN xs n s) := by
    intro d
    induction d with
    | zero =>
      intro i hi
      obtain rfl : i = n := by omega
      exact Ev.step (fun k => spec_l20At.l0.eq_2 ..) (Ev.neg (by omega) (Ev.now _))
    | succ d ih =>
      intro i hi
      have w1 : wrap64 ((i : Int) + 1) = ((i + 1 : Nat) : Int) := by rw [w64 (by omega) (by omega)]; rfl
      have := ih (i + 1) (by omega)
      refine Ev.step (fun k => spec_l20At.l0.eq_2 ..) (Ev.pos (by omega) (Ev.pos (by omega) (Ev.pos (by omega) ?_)))
      rw [w1]
      rw [show holdN xs (i + 1) s = if (rd_T52 xs i).f1 = s then Go.bits .xor .i64 (holdN xs i s) (rd_T52 xs i).f3 else holdN xs i s from rfl] at this
      by_cases c : (rd_T52 xs i).f1 = s
      · rw [if_pos c] at this
        exact Ev.pos (str_eq.2 c) this
      · rw [if_neg c] at this
        exact Ev.neg (fun h => c (str_eq.1 h)) this
  exact main n 0 (by omega)

/-- Entry i is as it should be behind those before it. -/
def vE (xs : List S52) (i : Nat) : Prop :=
  (0 ≤ (rd_T52 xs i).f0 ∧ (rd_T52 xs i).f0 ≤ 240) ∧ isId (rd_T52 xs i).f1 = true ∧ (1 ≤ (rd_T52 xs i).f3 ∧ (rd_T52 xs i).f3 ≤ 15) ∧ (0 < i → (rd_T52 xs ((i : Int) - 1)).f0 ≤ (rd_T52 xs i).f0) ∧
  ((rd_T52 xs i).f2 = true → Go.bits .and .i64 (holdN xs i (rd_T52 xs i).f1) (rd_T52 xs i).f3 = 0) ∧ ((rd_T52 xs i).f2 = false → Go.bits .and .i64 (holdN xs i (rd_T52 xs i).f1) (rd_T52 xs i).f3 = (rd_T52 xs i).f3)
/-- A file. -/
def File (xs : List S52) : Prop := xs.length ≤ 20 ∧ ∀ i, i < xs.length → vE xs i

theorem holdN_bd (xs : List S52) (n : Nat) (h : ∀ i, i < n → vE xs i) (s : ByteArray) : 0 ≤ holdN xs n s ∧ holdN xs n s ≤ 15 := by
  induction n with
  | zero => exact ⟨Int.le_refl _, by unfold holdN; omega⟩
  | succ n ih =>
    have := ih (fun i hi => h i (by omega))
    unfold holdN
    split
    · have hv := (h n (by omega)).2.2.1
      exact (bits_or _ _ this ⟨by omega, hv.2⟩).2.2
    · exact this

/-- The reference's way through a list. -/
theorem good_at (xs : List S52) (hl : xs.length ≤ 1048577) : ∀ d i : Nat, i + d = xs.length → ∃ b : Bool, Ev (fun k => spec_l20Good.l0 k xs i) b ∧ (b = true ↔ xs.length ≤ 20 ∧ ∀ j, i ≤ j → j < xs.length → vE xs j) := by
  intro d
  induction d with
  | zero =>
    intro i hi
    refine ⟨decide ((xs.length : Int) ≤ 20), Ev.step (fun k => spec_l20Good.l0.eq_2 ..) (Ev.neg (by omega) (Ev.now _)), ?_⟩
    rw [decide_eq_true_iff]
    exact ⟨fun h => ⟨by omega, fun j h1 h2 => by omega⟩, fun h => by omega⟩
  | succ d ih =>
    intro i hi
    have w1 : wrap64 ((i : Int) + 1) = ((i + 1 : Nat) : Int) := by rw [w64 (by omega) (by omega)]; rfl
    have l1 : (i : Int) < (xs.length : Int) := by omega
    have l2 : 0 ≤ (i : Int) := by omega
    have w2 : 0 < i → wrap64 ((i : Int) - 1) = (i : Int) - 1 := fun h => w64 (by omega) (by omega)
    have l3 : 0 < i → 0 ≤ (i : Int) - 1 := fun h => by omega
    have l4 : (i : Int) - 1 < (xs.length : Int) := by omega
    obtain ⟨b, s1, s3⟩ := ih (i + 1) (by omega)
    have jt : ∀ x y z v, Ev (fun k => spec_l20Good.j1 k xs i true x y z v) false := fun x y z v => Ev.step (fun k => spec_l20Good.j1.eq_2 ..) (Ev.pos rfl (Ev.now _))
    have no : ∀ h : ¬ vE xs i, ((false : Bool) = true ↔ xs.length ≤ 20 ∧ ∀ j, i ≤ j → j < xs.length → vE xs j) := fun h => ⟨(fun q => by cases q), fun h' => absurd (h'.2 i (by omega) (by omega)) h⟩
    have sp : ∀ r, Ev _ r → Ev (fun k => spec_l20Good.l0 k xs i) r := fun r hr => Ev.step (fun k => spec_l20Good.l0.eq_2 ..) (Ev.pos l1 (Ev.pos l2 (Ev.const (l1In_eq _ _ _) hr)))
    by_cases c1 : 0 ≤ (rd_T52 xs i).f0 ∧ (rd_T52 xs i).f0 ≤ 240
    · by_cases c2 : isId (rd_T52 xs i).f1 = true
      · by_cases c3 : 1 ≤ (rd_T52 xs i).f3 ∧ (rd_T52 xs i).f3 ≤ 15
        · have sp2 : ∀ r, Ev _ r → Ev (fun k => spec_l20Good.l0 k xs i) r := fun r hr => sp r (Ev.pos (by simp [c1]) (Ev.bind (isId_spec _) (Ev.pos c2 (Ev.const (l1In_eq _ _ _) (Ev.pos (by simp [c3]) hr)))))
          by_cases c4 : 0 < i → (rd_T52 xs ((i : Int) - 1)).f0 ≤ (rd_T52 xs i).f0
          · have sp3 : ∀ r, Ev (fun k => spec_l20Good.j1 k xs i false (rd_T52 xs i).f0 (rd_T52 xs i).f1 (rd_T52 xs i).f2 (rd_T52 xs i).f3) r → Ev (fun k => spec_l20Good.l0 k xs i) r := by
              intro r hr
              refine sp2 r (Ev.ite (fun hp => ?_) (fun _ => hr))
              have hp' : 0 < i := by omega
              rw [w2 hp']
              refine Ev.pos (l3 hp') (Ev.pos l4 ?_)
              rw [show decide ((rd_T52 xs ((i : Int) - 1)).f0 > (rd_T52 xs i).f0) = false from by have := c4 hp'; simp; omega]
              exact hr
            have fin : ∀ h : vE xs i, (b = true ↔ xs.length ≤ 20 ∧ ∀ j, i ≤ j → j < xs.length → vE xs j) := by
              intro h
              rw [s3]
              refine ⟨fun q => ⟨q.1, fun j h1 h2 => ?_⟩, fun q => ⟨q.1, fun j h1 h2 => q.2 j (by omega) h2⟩⟩
              rcases Nat.lt_or_ge i j with hj | hj
              · exact q.2 j hj h2
              · obtain rfl : j = i := by omega
                exact h
            rw [← w1] at s1
            have j1 : ∀ r, Ev _ r → Ev (fun k => spec_l20Good.j1 k xs i false (rd_T52 xs i).f0 (rd_T52 xs i).f1 (rd_T52 xs i).f2 (rd_T52 xs i).f3) r := fun r hr => Ev.step (fun k => spec_l20Good.j1.eq_2 ..) (Ev.neg (by simp) (Ev.bind (at_eq xs hl i (by omega) _) hr))
            cases hp : (rd_T52 xs i).f2 with
            | true =>
              rw [hp] at sp3 j1
              by_cases c5 : Go.bits .and .i64 (holdN xs i (rd_T52 xs i).f1) (rd_T52 xs i).f3 = 0
              · exact ⟨b, sp3 _ (j1 _ (Ev.pos rfl (Ev.pos c5 s1))), fin ⟨c1, c2, c3, c4, fun _ => c5, (fun h => by rw [hp] at h; cases h)⟩⟩
              · exact ⟨false, sp3 _ (j1 _ (Ev.pos rfl (Ev.neg c5 (Ev.now _)))), no (fun h => c5 (h.2.2.2.2.1 hp))⟩
            | false =>
              rw [hp] at sp3 j1
              by_cases c5 : Go.bits .and .i64 (holdN xs i (rd_T52 xs i).f1) (rd_T52 xs i).f3 = (rd_T52 xs i).f3
              · exact ⟨b, sp3 _ (j1 _ (Ev.neg (by simp) (Ev.pos c5 s1))), fin ⟨c1, c2, c3, c4, (fun h => by rw [hp] at h; cases h), fun _ => c5⟩⟩
              · exact ⟨false, sp3 _ (j1 _ (Ev.neg (by simp) (Ev.neg c5 (Ev.now _)))), no (fun h => c5 (h.2.2.2.2.2 hp))⟩
          · have hi0 : 0 < i := by
              rcases Nat.eq_zero_or_pos i with h | h
              · exact absurd (fun h' => by omega) c4
              · exact h
            have c5 : (rd_T52 xs i).f0 < (rd_T52 xs ((i : Int) - 1)).f0 := by
              rcases Int.lt_or_le (rd_T52 xs i).f0 (rd_T52 xs ((i : Int) - 1)).f0 with h | h
              · exact h
              · exact absurd (fun _ => h) c4
            refine ⟨false, sp2 _ (Ev.pos (by omega) ?_), no (fun h => c4 h.2.2.2.1)⟩
            rw [w2 hi0]
            refine Ev.pos (l3 hi0) (Ev.pos l4 ?_)
            rw [show decide ((rd_T52 xs ((i : Int) - 1)).f0 > (rd_T52 xs i).f0) = true from by simp; omega]
            exact jt _ _ _ _
        · exact ⟨false, sp _ (Ev.pos (by simp [c1]) (Ev.bind (isId_spec _) (Ev.pos c2 (Ev.const (l1In_eq _ _ _) (Ev.neg (by simp; omega) (jt _ _ _ _)))))), no (fun h => c3 h.2.2.1)⟩
      · exact ⟨false, sp _ (Ev.pos (by simp [c1]) (Ev.bind (isId_spec _) (Ev.neg c2 (jt _ _ _ _)))), no (fun h => c2 h.2.1)⟩
    · exact ⟨false, sp _ (Ev.neg (by simp; omega) (jt _ _ _ _)), no (fun h => c1 h.1)⟩

/-- The program's way: the first entry that is not as it should be, or the twenty-first. -/
theorem conflict_at (xs : List S52) (hl : xs.length ≤ 1048577) : ∀ d i : Nat, i + d = xs.length → i ≤ 20 → (∀ j, j < i → vE xs j) → ∃ c : Nat, c ≤ xs.length ∧ c ≤ 20 ∧ i ≤ c ∧ Ev (fun k => impl_conflictIn.l0 k xs (holdN xs i) xs xs.length i) (c : Int) ∧
    (∀ j, j < c → vE xs j) ∧ (c < xs.length → c = 20 ∨ ¬ vE xs c) := by
  intro d
  induction d with
  | zero =>
    intro i hi h20 hv
    exact ⟨i, by omega, h20, Nat.le_refl _, Ev.step (fun k => impl_conflictIn.l0.eq_2 ..) (Ev.neg (by omega) (Ev.eq (Ev.now _) (by omega))), hv, fun h => by omega⟩
  | succ d ih =>
    intro i hi h20 hv
    have w1 : wrap64 ((i : Int) + 1) = ((i + 1 : Nat) : Int) := by rw [w64 (by omega) (by omega)]; rfl
    have l1 : (i : Int) < (xs.length : Int) := by omega
    have l2 : 0 ≤ (i : Int) := by omega
    have w2 : 0 < i → wrap64 ((i : Int) - 1) = (i : Int) - 1 := fun h => w64 (by omega) (by omega)
    have l3 : 0 < i → 0 ≤ (i : Int) - 1 := fun h => by omega
    have l4 : (i : Int) - 1 < (xs.length : Int) := by omega
    have jt : ∀ x y z v, Ev (fun k => impl_conflictIn.j1 k xs (holdN xs i) i xs xs.length i true x y z v) (i : Int) := fun x y z v => Ev.step (fun k => impl_conflictIn.j1.eq_2 ..) (Ev.pos rfl (Ev.now _))
    have im : ∀ r, Ev _ r → Ev (fun k => impl_conflictIn.l0 k xs (holdN xs i) xs xs.length i) r := fun r hr => Ev.step (fun k => impl_conflictIn.l0.eq_2 ..) (Ev.pos l1 (Ev.pos l2 (Ev.pos l1 hr)))
    by_cases c0 : i = 20
    · exact ⟨i, by omega, h20, Nat.le_refl _, im _ (Ev.pos (by omega) (jt _ _ _ _)), hv, fun _ => .inl c0⟩
    · have im0 : ∀ r, Ev _ r → Ev (fun k => impl_conflictIn.l0 k xs (holdN xs i) xs xs.length i) r := fun r hr => im r (Ev.neg (by omega) (Ev.const (within_eq _ _ _) hr))
      have no : ∀ h : ¬ vE xs i, Ev (fun k => impl_conflictIn.l0 k xs (holdN xs i) xs xs.length i) (i : Int) → ∃ c : Nat, c ≤ xs.length ∧ c ≤ 20 ∧ i ≤ c ∧ Ev (fun k => impl_conflictIn.l0 k xs (holdN xs i) xs xs.length i) (c : Int) ∧ (∀ j, j < c → vE xs j) ∧ (c < xs.length → c = 20 ∨ ¬ vE xs c) :=
        fun h e => ⟨i, by omega, h20, Nat.le_refl _, e, hv, fun _ => .inr h⟩
      by_cases c1 : 0 ≤ (rd_T52 xs i).f0 ∧ (rd_T52 xs i).f0 ≤ 240
      · by_cases c4 : 0 < i → (rd_T52 xs ((i : Int) - 1)).f0 ≤ (rd_T52 xs i).f0
        · have im1 : ∀ r, Ev (fun k => (impl_IsValidId.f k (rd_T52 xs i).f1).bind fun t109 => if t109 = true then (impl_within.f (rd_T52 xs i).f3 1 15).bind fun t110 => impl_conflictIn.j1 k xs (holdN xs i) i xs xs.length i (!t110) (rd_T52 xs i).f0 (rd_T52 xs i).f1 (rd_T52 xs i).f2 (rd_T52 xs i).f3
              else impl_conflictIn.j1 k xs (holdN xs i) i xs xs.length i true (rd_T52 xs i).f0 (rd_T52 xs i).f1 (rd_T52 xs i).f2 (rd_T52 xs i).f3) r → Ev (fun k => impl_conflictIn.l0 k xs (holdN xs i) xs xs.length i) r := by
            intro r hr
            refine im0 r (Ev.pos (by simp [c1]) (Ev.ite (fun hp => ?_) (fun _ => hr)))
            have hp' : 0 < i := by omega
            rw [w2 hp']
            have := c4 hp'
            exact Ev.pos (l3 hp') (Ev.pos l4 (Ev.neg (Int.not_lt.2 this) hr))
          by_cases c2 : isId (rd_T52 xs i).f1 = true
          · by_cases c3 : 1 ≤ (rd_T52 xs i).f3 ∧ (rd_T52 xs i).f3 ≤ 15
            · have sz : (rd_T52 xs i).f1.size ≤ 9223372036854775807 := by have := isId_size _ c2; omega
              have bd := holdN_bd xs i hv (rd_T52 xs i).f1
              obtain ⟨b1, b2, b3⟩ := bits_or _ _ bd ⟨by omega, c3.2⟩
              have im2 : ∀ r, Ev _ r → Ev (fun k => impl_conflictIn.l0 k xs (holdN xs i) xs xs.length i) r := fun r hr => im1 r (Ev.bind (isId_impl _) (Ev.pos c2 (Ev.const (within_eq _ _ _) (Ev.step (fun k => impl_conflictIn.j1.eq_2 ..) (Ev.neg (by simp [c3]) (Ev.const (a := holdN xs i (rd_T52 xs i).f1) (by unfold mlook.f; rw [if_pos sz]) hr))))))
              have stepm : (fun x => if x = (rd_T52 xs i).f1 then Go.bits .xor .i64 (holdN xs i (rd_T52 xs i).f1) (rd_T52 xs i).f3 else holdN xs i x) = holdN xs (i + 1) := by
                funext x
                show _ = if (rd_T52 xs i).f1 = x then Go.bits .xor .i64 (holdN xs i x) (rd_T52 xs i).f3 else holdN xs i x
                by_cases q : x = (rd_T52 xs i).f1
                · rw [if_pos q, if_pos q.symm, q]
                · rw [if_neg q, if_neg (fun h => q h.symm)]
              have put : mput.f (holdN xs i) (rd_T52 xs i).f1 (Go.bits .xor .i64 (holdN xs i (rd_T52 xs i).f1) (rd_T52 xs i).f3) = some (holdN xs (i + 1)) := by
                unfold mput.f
                rw [if_pos ⟨sz, by omega, by omega⟩, stepm]
              have go : ∀ h : vE xs i, ∃ c : Nat, c ≤ xs.length ∧ c ≤ 20 ∧ i ≤ c ∧ Ev (fun k => impl_conflictIn.l0 k xs (holdN xs (i + 1)) xs xs.length ((i + 1 : Nat) : Int)) (c : Int) ∧ (∀ j, j < c → vE xs j) ∧ (c < xs.length → c = 20 ∨ ¬ vE xs c) := by
                intro h
                obtain ⟨c, q1, q2, q3, q4, q5, q6⟩ := ih (i + 1) (by omega) (by omega) (fun j hj => by
                  rcases Nat.lt_or_ge j i with hj' | hj'
                  · exact hv j hj'
                  · obtain rfl : j = i := by omega
                    exact h)
                exact ⟨c, q1, q2, by omega, q4, q5, q6⟩
              cases hp : (rd_T52 xs i).f2 with
              | true =>
                rw [hp] at im2
                by_cases c5 : Go.bits .and .i64 (holdN xs i (rd_T52 xs i).f1) (rd_T52 xs i).f3 = 0
                · obtain ⟨c, q1, q2, q3, q4, q5, q6⟩ := go ⟨c1, c2, c3, c4, fun _ => c5, (fun h => by rw [hp] at h; cases h)⟩
                  rw [← w1] at q4
                  refine ⟨c, q1, q2, q3, im2 _ (Ev.pos rfl (Ev.pos c5 ?_)), q5, q6⟩
                  rw [b1 c5]
                  exact Ev.const put q4
                · exact no (fun h => c5 (h.2.2.2.2.1 hp)) (im2 _ (Ev.pos rfl (Ev.neg c5 (Ev.now _))))
              | false =>
                rw [hp] at im2
                by_cases c5 : Go.bits .and .i64 (holdN xs i (rd_T52 xs i).f1) (rd_T52 xs i).f3 = (rd_T52 xs i).f3
                · obtain ⟨c, q1, q2, q3, q4, q5, q6⟩ := go ⟨c1, c2, c3, c4, (fun h => by rw [hp] at h; cases h), fun _ => c5⟩
                  rw [← w1] at q4
                  refine ⟨c, q1, q2, q3, im2 _ (Ev.neg (by simp) (Ev.pos c5 ?_)), q5, q6⟩
                  rw [b2 c5]
                  exact Ev.const put q4
                · exact no (fun h => c5 (h.2.2.2.2.2 hp)) (im2 _ (Ev.neg (by simp) (Ev.neg c5 (Ev.now _))))
            · refine no (fun h => c3 h.2.2.1) (im1 _ (Ev.bind (isId_impl _) (Ev.pos c2 (Ev.const (within_eq _ _ _) ?_))))
              rw [show (!decide (1 ≤ (rd_T52 xs i).f3 ∧ (rd_T52 xs i).f3 ≤ 15)) = true from by simp; omega]
              exact jt _ _ _ _
          · exact no (fun h => c2 h.2.1) (im1 _ (Ev.bind (isId_impl _) (Ev.neg c2 (jt _ _ _ _))))
        · have hi0 : 0 < i := by
            rcases Nat.eq_zero_or_pos i with h | h
            · exact absurd (fun h' => by omega) c4
            · exact h
          have c5 : (rd_T52 xs i).f0 < (rd_T52 xs ((i : Int) - 1)).f0 := by
            rcases Int.lt_or_le (rd_T52 xs i).f0 (rd_T52 xs ((i : Int) - 1)).f0 with h | h
            · exact h
            · exact absurd (fun _ => h) c4
          refine no (fun h => c4 h.2.2.2.1) (im0 _ (Ev.pos (by simp [c1]) (Ev.pos (by omega) ?_)))
          rw [w2 hi0]
          exact Ev.pos (l3 hi0) (Ev.pos l4 (Ev.pos c5 (jt _ _ _ _)))
      · exact no (fun h => c1 h.1) (im0 _ (Ev.neg (by simp; omega) (jt _ _ _ _)))

theorem conflict (xs : List S52) (hl : xs.length ≤ 1048577) : ∃ c : Nat, c ≤ xs.length ∧ c ≤ 20 ∧ Ev (fun k => impl_conflictIn.f k xs) (c : Int) ∧ (∀ j, j < c → vE xs j) ∧ (c < xs.length → c = 20 ∨ ¬ vE xs c) := by
  obtain ⟨c, q1, q2, _, q4, q5, q6⟩ := conflict_at xs hl xs.length 0 (by omega) (by omega) (fun j hj => by omega)
  refine ⟨c, q1, q2, ?_, q5, q6⟩
  unfold impl_conflictIn.f
  exact q4
/-- The reference's test. -/
theorem goods (xs : List S52) (hl : xs.length ≤ 1048577) : ∃ b : Bool, Ev (fun k => spec_l20Good.f k xs) b ∧ (b = true ↔ File xs) := by
  obtain ⟨b, h1, h3⟩ := good_at xs hl xs.length 0 (by omega)
  exact ⟨b, by unfold spec_l20Good.f; exact h1, h3.trans ⟨fun h => ⟨h.1, fun i hi => h.2 i (by omega) hi⟩, fun h => ⟨h.1, fun j _ hj => h.2 j hj⟩⟩⟩

theorem holdN_congr (xs ys : List S52) (n : Nat) (h : ∀ j : Nat, j < n → rd_T52 ys j = rd_T52 xs j) (s : ByteArray) : holdN ys n s = holdN xs n s := by
  induction n with
  | zero => rfl
  | succ n ih =>
    unfold holdN
    rw [h n (by omega), ih (fun j hj => h j (by omega))]
theorem vE_congr (xs ys : List S52) (i : Nat) (h : ∀ j : Nat, j ≤ i → rd_T52 ys j = rd_T52 xs j) : vE ys i ↔ vE xs i := by
  unfold vE
  rw [h i (Nat.le_refl _), holdN_congr xs ys i (fun j hj => h j (by omega))]
  rcases Nat.eq_zero_or_pos i with rfl | hi
  · simp
  · rw [show ((i : Int) - 1) = ((i - 1 : Nat) : Int) by omega, h (i - 1) (by omega)]
theorem rd_take (xs : List S52) (m j : Nat) (h : j < m) : rd_T52 (xs.take m) (j : Int) = rd_T52 xs j := by
  unfold rd_T52
  rw [Int.toNat_natCast, List.getD_eq_getElem?_getD, List.getD_eq_getElem?_getD, List.getElem?_take, if_pos h]
theorem rd_snoc (xs : List S52) (e : S52) (j : Nat) (h : j < xs.length) : rd_T52 (xs ++ [e]) (j : Int) = rd_T52 xs j := by
  unfold rd_T52
  rw [Int.toNat_natCast, List.getD_eq_getElem?_getD, List.getD_eq_getElem?_getD, List.getElem?_append_left h]
theorem file_take (xs : List S52) (m : Nat) (hm : m ≤ xs.length) : File (xs.take m) ↔ m ≤ 20 ∧ ∀ i, i < m → vE xs i := by
  unfold File
  rw [List.length_take, Nat.min_eq_left hm]
  exact ⟨fun h => ⟨h.1, fun i hi => (vE_congr _ _ i (fun j hj => rd_take xs m j (by omega))).1 (h.2 i hi)⟩, fun h => ⟨h.1, fun i hi => (vE_congr _ _ i (fun j hj => rd_take xs m j (by omega))).2 (h.2 i hi)⟩⟩
theorem file_snoc (xs : List S52) (e : S52) (h : File (xs ++ [e])) : File xs := by
  obtain ⟨h1, h2⟩ := h
  rw [List.length_append, List.length_singleton] at h1 h2
  exact ⟨by omega, fun i hi => (vE_congr _ _ i (fun j hj => rd_snoc xs e j (by omega))).1 (h2 i (by omega))⟩
theorem rise_hours (xs : List S52) (hv : ∀ i, i < xs.length → vE xs i) (i j : Nat) (hij : i ≤ j) (hj : j < xs.length) : (rd_T52 xs i).f0 ≤ (rd_T52 xs j).f0 := by
  induction j with
  | zero =>
    obtain rfl : i = 0 := by omega
    omega
  | succ j ih =>
    rcases Nat.lt_or_ge j i with h | h
    · obtain rfl : i = j + 1 := by omega
      omega
    · have := ih h (by omega)
      have h3 := (hv (j + 1) hj).2.2.2.1 (by omega)
      rw [show (((j + 1 : Nat) : Int) - 1) = (j : Int) by omega] at h3
      omega


/-- The reference's test and the program's. -/
theorem files (xs : List S52) (hl : xs.length ≤ 1048577) : ∃ b : Bool, Ev (fun k => spec_l20Good.f k xs) b ∧ Ev (fun k => impl_IsValidFile.f k xs) b ∧ (b = true ↔ File xs) := by
  obtain ⟨b, h1, h3'⟩ := goods xs hl
  obtain ⟨c, q1, q2, q4, q5, q6⟩ := conflict xs hl
  refine ⟨b, h1, ?_, h3'⟩
  unfold impl_IsValidFile.f
  refine Ev.bind q4 (Ev.eq (Ev.now _) ?_)
  rcases Nat.lt_or_ge c xs.length with h | h
  · have hb : b = false := by
      cases hb : b with
      | false => rfl
      | true =>
        have := h3'.1 hb
        rcases q6 h with rfl | q
        · have := this.1
          omega
        · exact absurd (this.2 c h) q
    rw [hb]
    simp
    omega
  · obtain rfl : c = xs.length := by omega
    have hb : b = true := h3'.2 ⟨q2, q5⟩
    rw [hb]
    simp


/-- How many entries have an hour of at most so much. -/
theorem hour_split (xs : List S52) (hf : File xs) (hour : Int) : ∃ n : Nat, n ≤ xs.length ∧ (∀ j : Nat, j < n → (rd_T52 xs j).f0 ≤ hour) ∧ (∀ j : Nat, n ≤ j → j < xs.length → hour < (rd_T52 xs j).f0) := by
  obtain ⟨l20, hv⟩ := hf
  have split : ∀ m : Nat, m ≤ xs.length → ∃ n : Nat, n ≤ m ∧ (∀ j : Nat, j < n → (rd_T52 xs j).f0 ≤ hour) ∧ (∀ j : Nat, n ≤ j → j < m → hour < (rd_T52 xs j).f0) := by
    intro m
    induction m with
    | zero => exact fun _ => ⟨0, Nat.le_refl _, fun j h => by omega, fun j _ h => by omega⟩
    | succ m ih =>
      intro hm
      obtain ⟨n, h1, h2, h3⟩ := ih (by omega)
      by_cases c : hour < (rd_T52 xs m).f0
      · refine ⟨n, by omega, h2, fun j hj hlt => ?_⟩
        rcases Nat.lt_or_ge j m with h | h
        · exact h3 j hj h
        · obtain rfl : j = m := by omega
          exact c
      · refine ⟨m + 1, by omega, fun j hj => ?_, fun j hj hlt => by omega⟩
        have := rise_hours xs hv j m (by omega) (by omega)
        omega
  exact split xs.length (Nat.le_refl _)

theorem spec_by (xs : List S52) (hf : File xs) (hour : Int) (n : Nat) (n1 : n ≤ xs.length) (n2 : ∀ j : Nat, j < n → (rd_T52 xs j).f0 ≤ hour) (n3 : ∀ j : Nat, n ≤ j → j < xs.length → hour < (rd_T52 xs j).f0) : Ev (fun k => spec_l20By.f k xs hour) (n : Int) := by
  obtain ⟨l20, hv⟩ := hf
  unfold spec_l20By.f
  have main : ∀ d i : Nat, i + d = n → Ev (fun k => spec_l20By.l0 k xs hour i) (n : Int) := by
    intro d
    induction d with
    | zero =>
      intro i hi
      obtain rfl : i = n := by omega
      refine Ev.step (fun k => spec_l20By.l0.eq_2 ..) (Ev.ite (fun h => Ev.pos (by omega) (Ev.neg ?_ (Ev.now _))) (fun _ => Ev.now _))
      have := n3 i (Nat.le_refl _) (by omega)
      omega
    | succ d ih =>
      intro i hi
      have w1 : wrap64 ((i : Int) + 1) = ((i + 1 : Nat) : Int) := by rw [w64 (by omega) (by omega)]; rfl
      refine Ev.step (fun k => spec_l20By.l0.eq_2 ..) (Ev.pos (by omega) (Ev.pos (by omega) (Ev.pos (n2 i (by omega)) ?_)))
      rw [w1]
      exact ih (i + 1) (by omega)
  exact main n 0 (by omega)


theorem impl_on (xs : List S52) (hf : File xs) (s : ByteArray) (hour : Int) (n : Nat) (n1 : n ≤ xs.length) (n2 : ∀ j : Nat, j < n → (rd_T52 xs j).f0 ≤ hour) (n3 : ∀ j : Nat, n ≤ j → j < xs.length → hour < (rd_T52 xs j).f0) : Ev (fun k => impl_holdsOn.f k xs s hour) (holdN xs n s) := by
  obtain ⟨l20, hv⟩ := hf
  unfold impl_holdsOn.f
  have main : ∀ d i : Nat, i + d = xs.length → Ev (fun k => impl_holdsOn.l0 k s hour (holdN xs (min i n) s) xs xs.length i) (holdN xs n s) := by
    intro d
    induction d with
    | zero =>
      intro i hi
      exact Ev.step (fun k => impl_holdsOn.l0.eq_2 ..) (Ev.neg (by omega) (Ev.eq (Ev.now _) (by rw [Nat.min_eq_right (by omega)])))
    | succ d ih =>
      intro i hi
      have w1 : wrap64 ((i : Int) + 1) = ((i + 1 : Nat) : Int) := by rw [w64 (by omega) (by omega)]; rfl
      have next := ih (i + 1) (by omega)
      rw [← w1] at next
      have skip : min (i + 1) n = min i n ∨ True := .inr trivial
      by_cases c : i < n
      · rw [Nat.min_eq_left (by omega)] at next
        rw [Nat.min_eq_left (by omega)]
        rw [show holdN xs (i + 1) s = if (rd_T52 xs i).f1 = s then Go.bits .xor .i64 (holdN xs i s) (rd_T52 xs i).f3 else holdN xs i s from rfl] at next
        have h2 := n2 i c
        by_cases q : (rd_T52 xs i).f1 = s
        · rw [if_pos q] at next
          have v := hv i (by omega)
          have bd := holdN_bd xs i (fun j hj => hv j (by omega)) s
          obtain ⟨b1, b2, _⟩ := bits_or (holdN xs i s) (rd_T52 xs i).f3 bd ⟨by have := v.2.2.1; omega, v.2.2.1.2⟩
          refine Ev.step (fun k => impl_holdsOn.l0.eq_2 ..) (Ev.pos (by omega) (Ev.pos (by omega) (Ev.pos (by omega) (Ev.pos (str_eq.2 q) ?_))))
          refine Ev.step (fun k => impl_holdsOn.j1.eq_2 ..) (Ev.neg (by simp; omega) ?_)
          cases hp : (rd_T52 xs i).f2 with
          | true =>
            have := v.2.2.2.2.1 hp
            rw [q] at this
            rw [b1 this]
            exact Ev.pos rfl next
          | false =>
            have := v.2.2.2.2.2 hp
            rw [q] at this
            rw [b2 this]
            exact Ev.neg (by simp) next
        · rw [if_neg q] at next
          refine Ev.step (fun k => impl_holdsOn.l0.eq_2 ..) (Ev.pos (by omega) (Ev.pos (by omega) (Ev.pos (by omega) (Ev.neg (fun h => q (str_eq.1 h)) ?_))))
          exact Ev.step (fun k => impl_holdsOn.j1.eq_2 ..) (Ev.pos rfl next)
      · rw [Nat.min_eq_right (by omega)] at next
        rw [Nat.min_eq_right (by omega)]
        have h3 := n3 i (by omega) (by omega)
        refine Ev.step (fun k => impl_holdsOn.l0.eq_2 ..) (Ev.pos (by omega) (Ev.pos (by omega) (Ev.pos (by omega) (Ev.ite (fun _ => ?_) (fun _ => ?_)))))
        · exact Ev.step (fun k => impl_holdsOn.j1.eq_2 ..) (Ev.pos (by simp; omega) next)
        · exact Ev.step (fun k => impl_holdsOn.j1.eq_2 ..) (Ev.pos rfl next)
  have := main xs.length 0 (by omega)
  rw [Nat.min_eq_left (by omega)] at this
  exact this

/-- How many entries have an hour of at most so much: the reference's count, and the program's holds after it. -/
theorem by_hour (xs : List S52) (hf : File xs) (s : ByteArray) (hour : Int) : ∃ n : Nat, n ≤ xs.length ∧ (∀ j : Nat, j < n → (rd_T52 xs j).f0 ≤ hour) ∧ (∀ j : Nat, n ≤ j → j < xs.length → hour < (rd_T52 xs j).f0) ∧
    Ev (fun k => spec_l20By.f k xs hour) (n : Int) ∧ Ev (fun k => impl_holdsOn.f k xs s hour) (holdN xs n s) := by
  obtain ⟨n, n1, n2, n3⟩ := hour_split xs hf hour
  exact ⟨n, n1, n2, n3, spec_by xs hf hour n n1 n2 n3, impl_on xs hf s hour n n1 n2 n3⟩

theorem hour_eq (a : Int) : spec_l20Hour.f a = some (decide (0 ≤ a ∧ a ≤ 240)) := by
  unfold spec_l20Hour.f
  rw [l1In_eq]
  rfl

/-- Texts in rising order, each once. -/
def SortedB (l : List ByteArray) : Prop := l.Pairwise fun a b => frB a < frB b
theorem less_fr (a b : ByteArray) : Op.bytesLess a.toList b.toList = decide (frB a < frB b) := by
  rw [ByteArray.toList_eq, ByteArray.toList_eq]
  exact Go.Proofs.bytesLess_eq _ _
theorem fr_inj {a b : ByteArray} (h : frB a = frB b) : a = b := str_ext h
theorem sortedB_ext : ∀ a b : List ByteArray, SortedB a → SortedB b → (∀ x, x ∈ a ↔ x ∈ b) → a = b := by
  intro a
  induction a with
  | nil =>
    intro b _ _ h
    cases b with
    | nil => rfl
    | cons y ys => exact absurd ((h y).2 (List.mem_cons_self ..)) (List.not_mem_nil)
  | cons x xs ih =>
    intro b ha hb h
    cases b with
    | nil => exact absurd ((h x).1 (List.mem_cons_self ..)) (List.not_mem_nil)
    | cons y ys =>
      obtain ⟨ha1, ha2⟩ := List.pairwise_cons.1 ha
      obtain ⟨hb1, hb2⟩ := List.pairwise_cons.1 hb
      have e : x = y := by
        rcases List.mem_cons.1 ((h x).1 (List.mem_cons_self ..)) with q | q
        · exact q
        · rcases List.mem_cons.1 ((h y).2 (List.mem_cons_self ..)) with p | p
          · exact p.symm
          · exact absurd (List.lt_trans (ha1 y p) (hb1 x q)) (List.lt_irrefl _)
      subst e
      rw [ih ys ha2 hb2 fun z => ⟨fun hz => ?_, fun hz => ?_⟩]
      · rcases List.mem_cons.1 ((h z).1 (List.mem_cons_of_mem _ hz)) with q | q
        · exact absurd (ha1 z hz) (by rw [q]; exact List.lt_irrefl _)
        · exact q
      · rcases List.mem_cons.1 ((h z).2 (List.mem_cons_of_mem _ hz)) with q | q
        · exact absurd (hb1 z hz) (by rw [q]; exact List.lt_irrefl _)
        · exact q
/-- What is sorted, each element once: the same elements in rising order. -/
theorem compactUp (d : Array (List UInt8)) (hd : ∀ i j : Nat, i ≤ j → j < d.size → d[i]! ≤ d[j]!) : ∀ m : Nat, m ≤ d.size → (Go.Lib.compactUpTo d m).Pairwise (· < ·) ∧ ∀ x, x ∈ Go.Lib.compactUpTo d m ↔ ∃ j, j < m ∧ d[j]! = x := by
  intro m
  induction m with
  | zero =>
    intro _
    refine ⟨?_, fun x => ⟨fun h => ?_, fun ⟨j, hj, _⟩ => absurd hj (by omega)⟩⟩
    · exact List.Pairwise.nil
    · exact absurd h (by simp [Go.Lib.compactUpTo])
  | succ m ih =>
    intro hm
    obtain ⟨i1, i2⟩ := ih (by omega)
    rw [Go.Lib.compactUpTo_succ]
    by_cases k : Go.Lib.keeps d m = true
    · rw [if_pos k]
      refine ⟨List.pairwise_append.2 ⟨i1, List.pairwise_singleton _ _, fun x hx y hy => ?_⟩, fun x => ?_⟩
      · rw [List.mem_singleton.1 hy]
        obtain ⟨j, j1, j2⟩ := (i2 x).1 hx
        have hk := of_decide_eq_true k
        rcases hk with hk | hk
        · omega
        · have a1 := hd j (m - 1) (by omega) (by omega)
          have a2 := hd (m - 1) m (by omega) (by omega)
          rw [j2] at a1
          rcases Decidable.em (x < d[m]!) with q | q
          · exact q
          · have a3 := List.not_lt.1 q
            have a4 := List.le_antisymm (List.le_trans a1 a2) a3
            rw [a4] at a1
            exact absurd (List.le_antisymm a1 a2) hk
      · rw [List.mem_append, i2, List.mem_singleton]
        refine ⟨fun h => ?_, fun ⟨j, j1, j2⟩ => ?_⟩
        · rcases h with ⟨j, j1, j2⟩ | h
          · exact ⟨j, by omega, j2⟩
          · exact ⟨m, by omega, h.symm⟩
        · rcases Nat.lt_or_ge j m with q | q
          · exact .inl ⟨j, q, j2⟩
          · obtain rfl : j = m := by omega
            exact .inr j2.symm
    · rw [if_neg k, List.append_nil]
      refine ⟨i1, fun x => (i2 x).trans ⟨fun ⟨j, j1, j2⟩ => ⟨j, by omega, j2⟩, fun ⟨j, j1, j2⟩ => ?_⟩⟩
      rcases Nat.lt_or_ge j m with q | q
      · exact ⟨j, q, j2⟩
      · obtain rfl : j = m := by omega
        have hk : ¬ (j = 0 ∨ d[j]! ≠ d[j - 1]!) := fun h => k (decide_eq_true h)
        refine ⟨j - 1, ?_, ?_⟩
        · rcases Nat.eq_zero_or_pos j with z | z
          · exact absurd (.inl z) hk
          · omega
        · rw [← j2]
          exact (Decidable.not_not.1 fun h => hk (.inr h)).symm
/-- Sort, then Compact. -/
theorem sortedOf (l : List ByteArray) : SortedB ((Go.Lib.compact ((l.map frB).mergeSort fun x y => decide (x ≤ y))).map toB) ∧ ∀ x, x ∈ (Go.Lib.compact ((l.map frB).mergeSort fun x y => decide (x ≤ y))).map toB ↔ x ∈ l := by
  have hp := List.pairwise_mergeSort (le := fun x y : List UInt8 => decide (x ≤ y)) (fun a b c h1 h2 => decide_eq_true (List.le_trans (of_decide_eq_true h1) (of_decide_eq_true h2))) (fun a b => by
    rcases List.le_total a b with h | h
    · rw [decide_eq_true h]; rfl
    · rw [decide_eq_true h]; exact Bool.or_true _) (l.map frB)
  have hm : ∀ x, x ∈ (l.map frB).mergeSort (fun x y => decide (x ≤ y)) ↔ x ∈ l.map frB := fun x => List.mem_mergeSort
  generalize (l.map frB).mergeSort (fun x y => decide (x ≤ y)) = zs at hp hm ⊢
  have hd : ∀ i j : Nat, i ≤ j → j < zs.toArray.size → zs.toArray[i]! ≤ zs.toArray[j]! := by
    intro i j hij hj
    have hj' : j < zs.length := by simpa using hj
    rw [getElem!_pos zs.toArray i (by simp; omega), getElem!_pos zs.toArray j hj]
    rcases Nat.lt_or_ge i j with q | q
    · exact of_decide_eq_true (List.pairwise_iff_getElem.1 hp i j (by omega) hj' q)
    · obtain rfl : i = j := by omega
      exact List.le_refl _
  obtain ⟨c1, c2⟩ := compactUp zs.toArray hd zs.length (by simp)
  have c3 : ∀ x, x ∈ Go.Lib.compact zs ↔ x ∈ zs := by
    intro x
    refine (c2 x).trans ⟨fun ⟨j, j1, j2⟩ => ?_, fun h => ?_⟩
    · rw [getElem!_pos zs.toArray j (by simpa using j1)] at j2
      rw [← j2]
      exact List.getElem_mem j1
    · obtain ⟨j, j1, j2⟩ := List.getElem_of_mem h
      exact ⟨j, j1, by rw [getElem!_pos zs.toArray j (by simpa using j1)]; exact j2⟩
  refine ⟨?_, fun x => ?_⟩
  · unfold SortedB
    rw [List.pairwise_map]
    exact c1
  · rw [List.mem_map]
    refine ⟨fun ⟨y, y1, y2⟩ => ?_, fun h => ⟨frB x, (c3 _).2 ((hm _).2 (List.mem_map.2 ⟨x, h, rfl⟩)), rfl⟩⟩
    obtain ⟨z, z1, z2⟩ := List.mem_map.1 ((hm y).1 ((c3 y).1 y1))
    rw [← y2, ← z2]
    exact z1
/-- The Ids of the entries from the i-th on that have holds. -/
def heldL (xs : List S52) (n : Nat) : Nat → Nat → List ByteArray
  | 0, _ => []
  | d + 1, i => if holdN xs n (rd_T52 xs i).f1 = 0 then heldL xs n d (i + 1) else (rd_T52 xs i).f1 :: heldL xs n d (i + 1)
theorem mem_heldL (xs : List S52) (n : Nat) (x : ByteArray) : ∀ d i : Nat, x ∈ heldL xs n d i ↔ ∃ j : Nat, i ≤ j ∧ j < i + d ∧ (rd_T52 xs j).f1 = x ∧ holdN xs n x ≠ 0 := by
  intro d
  induction d with
  | zero => exact fun i => ⟨fun h => absurd h List.not_mem_nil, fun ⟨j, h1, h2, _⟩ => absurd h2 (by omega)⟩
  | succ d ih =>
    intro i
    unfold heldL
    by_cases c : holdN xs n (rd_T52 xs i).f1 = 0
    · rw [if_pos c, ih]
      refine ⟨fun ⟨j, h1, h2, h3⟩ => ⟨j, by omega, by omega, h3⟩, fun ⟨j, h1, h2, h3, h4⟩ => ?_⟩
      rcases Nat.lt_or_ge i j with q | q
      · exact ⟨j, by omega, by omega, h3, h4⟩
      · obtain rfl : j = i := by omega
        rw [h3] at c
        exact absurd c h4
    · rw [if_neg c, List.mem_cons, ih]
      refine ⟨fun h => ?_, fun ⟨j, h1, h2, h3, h4⟩ => ?_⟩
      · rcases h with h | ⟨j, h1, h2, h3⟩
        · exact ⟨i, Nat.le_refl _, by omega, h.symm, by rw [h]; exact c⟩
        · exact ⟨j, by omega, by omega, h3⟩
      · rcases Nat.lt_or_ge i j with q | q
        · exact .inr ⟨j, by omega, by omega, h3, h4⟩
        · obtain rfl : j = i := by omega
          exact .inl h3.symm
theorem heldL_length (xs : List S52) (n : Nat) : ∀ d i : Nat, (heldL xs n d i).length ≤ d := by
  intro d
  induction d with
  | zero => exact fun i => Nat.le_refl _
  | succ d ih =>
    intro i
    unfold heldL
    split
    · exact Nat.le_trans (ih _) (by omega)
    · rw [List.length_cons]
      exact Nat.succ_le_succ (ih _)
theorem hold_some (xs : List S52) (s : ByteArray) : ∀ n : Nat, holdN xs n s ≠ 0 → ∃ j : Nat, j < n ∧ (rd_T52 xs j).f1 = s := by
  intro n
  induction n with
  | zero => exact fun h => absurd rfl h
  | succ n ih =>
    intro h
    by_cases c : (rd_T52 xs n).f1 = s
    · exact ⟨n, by omega, c⟩
    · unfold holdN at h
      rw [if_neg c] at h
      obtain ⟨j, j1, j2⟩ := ih h
      exact ⟨j, by omega, j2⟩
/-- The program's way. -/
theorem heldImpl (xs : List S52) (hl : xs.length ≤ 1048577) (hour : Int) (n : Nat) (hon : ∀ s, Ev (fun k => impl_holdsOn.f k xs s hour) (holdN xs n s)) : ∀ d i : Nat, i + d = xs.length → ∀ l : List ByteArray, l.length ≤ i →
    Ev (fun k => impl_HeldContainers.l0 k xs hour l xs xs.length i) ((Go.Lib.compact (((l ++ heldL xs n d i).map frB).mergeSort fun x y => decide (x ≤ y))).map toB, true) := by
  intro d
  induction d with
  | zero =>
    intro i hi l hll
    have e : heldL xs n 0 i = [] := rfl
    rw [e, List.append_nil]
    refine Ev.step (fun k => impl_HeldContainers.l0.eq_2 ..) (Ev.neg (by omega) (Ev.const (a := ((l.map frB).mergeSort fun x y => decide (x ≤ y)).map toB) (by unfold slices_Sort_string.f; rw [if_pos (by omega)]) ?_))
    have hq : (((l.map frB).mergeSort fun x y => decide (x ≤ y)).map toB).map frB = (l.map frB).mergeSort fun x y => decide (x ≤ y) := by
      rw [List.map_map]
      exact List.map_id' _
    refine Ev.const (a := (Go.Lib.compact ((l.map frB).mergeSort fun x y => decide (x ≤ y))).map toB) ?_ (Ev.now _)
    unfold slices_Compact_string.f
    rw [if_pos (by rw [List.length_map, List.length_mergeSort, List.length_map]; omega), hq]
  | succ d ih =>
    intro i hi l hll
    have w1 : wrap64 ((i : Int) + 1) = ((i + 1 : Nat) : Int) := by rw [w64 (by omega) (by omega)]; rfl
    refine Ev.step (fun k => impl_HeldContainers.l0.eq_2 ..) (Ev.pos (by omega) (Ev.pos (by omega) (Ev.pos (by omega) (Ev.bind (hon _) ?_))))
    rw [w1]
    unfold heldL
    by_cases c : holdN xs n (rd_T52 xs i).f1 = 0
    · rw [if_pos c]
      exact Ev.pos c (ih (i + 1) (by omega) l (by omega))
    · rw [if_neg c]
      have := ih (i + 1) (by omega) (l ++ [(rd_T52 xs i).f1]) (by rw [List.length_append, List.length_singleton]; omega)
      rw [List.append_assoc, List.singleton_append] at this
      exact Ev.neg c (Ev.pos (by omega) this)
/-- The reference's way: a text put where it belongs. -/
theorem putIn (out : List ByteArray) (ho : SortedB out) (id : ByteArray) (k : Nat) (hk : k ≤ out.length) (h1 : ∀ x ∈ out.take k, frB x < frB id) (h2 : ∀ x ∈ out.drop k, frB id < frB x) : SortedB (out.take k ++ [id] ++ out.drop k) ∧ (∀ x, x ∈ out.take k ++ [id] ++ out.drop k ↔ x ∈ out ∨ x = id) := by
  have e : out.take k ++ out.drop k = out := List.take_append_drop k out
  have ho' := ho
  unfold SortedB at ho'
  rw [← e] at ho'
  obtain ⟨p1, p2, p3⟩ := List.pairwise_append.1 ho'
  refine ⟨?_, fun x => ?_⟩
  · unfold SortedB
    refine List.pairwise_append.2 ⟨List.pairwise_append.2 ⟨p1, List.pairwise_singleton _ _, fun x hx y hy => ?_⟩, p2, fun x hx y hy => ?_⟩
    · rw [List.mem_singleton.1 hy]
      exact h1 x hx
    · rcases List.mem_append.1 hx with q | q
      · exact p3 x q y hy
      · rw [List.mem_singleton.1 q]
        exact h2 y hy
  · rw [List.mem_append, List.mem_append, List.mem_singleton]
    constructor
    · rintro ((h | h) | h)
      · exact .inl (List.mem_of_mem_take h)
      · exact .inr h
      · exact .inl (List.mem_of_mem_drop h)
    · rintro (h | h)
      · rw [← e] at h
        rcases List.mem_append.1 h with q | q
        · exact .inl (.inl q)
        · exact .inr q
      · exact .inl (.inr h)
theorem rdOf_at (out : List ByteArray) (k : Nat) (h : k < out.length) : rdOf ByteArray.empty out (k : Int) = out[k] := by
  unfold rdOf
  rw [Int.toNat_natCast]
  exact getD_of (List.getElem?_eq_getElem h)
theorem heldPut (xs : List S52) (n : Int) (i : Nat) (hi : i ≤ 1048577) (id : ByteArray) (out : List ByteArray) (ho : SortedB out) (hl : out.length ≤ 1048577) : ∀ d k : Nat, k + d = out.length → (∀ x ∈ out.take k, frB x < frB id) →
    ∃ out' : List ByteArray, SortedB out' ∧ (∀ x, x ∈ out' ↔ x ∈ out ∨ x = id) ∧ out'.length ≤ out.length + 1 ∧ ∀ r, Ev (fun q => spec_HeldContainers.l0 q xs out' n ((i + 1 : Nat) : Int)) r → Ev (fun q => spec_HeldContainers.l1 q xs out n i id k) r := by
  have wi : wrap64 ((i : Int) + 1) = ((i + 1 : Nat) : Int) := by rw [w64 (by omega) (by omega)]; rfl
  intro d
  induction d with
  | zero =>
    intro k hk h1
    obtain rfl : k = out.length := by omega
    obtain ⟨s1, s2⟩ := putIn out ho id out.length (Nat.le_refl _) h1 (fun x hx => by rw [List.drop_length] at hx; exact absurd hx List.not_mem_nil)
    refine ⟨_, s1, s2, by simp, fun r hr => Ev.step (fun q => spec_HeldContainers.l1.eq_2 ..) (Ev.neg (by omega) (Ev.pos rfl (Ev.some ?_)))⟩
    rw [wi, Int.toNat_natCast]
    refine Ev.pos (by omega) (Ev.pos (by omega) (Ev.some (Ev.pos (by simp; omega) (Ev.some (Ev.some (Ev.pos (by simp; omega) (Ev.some (Ev.some (Ev.pos (by simp; omega) ?_)))))))))
    rw [List.nil_append]
    exact hr
  | succ d ih =>
    intro k hk h1
    have hlt : k < out.length := by omega
    have e := rdOf_at out k hlt
    by_cases c : frB out[k] < frB id
    · obtain ⟨out', o1, o2, o3, o4⟩ := ih (k + 1) (by omega) (fun x hx => by
        rw [List.take_succ_eq_append_getElem hlt] at hx
        rcases List.mem_append.1 hx with q | q
        · exact h1 x q
        · rw [List.mem_singleton.1 q]
          exact c)
      refine ⟨out', o1, o2, o3, fun r hr => ?_⟩
      refine Ev.step (fun q => spec_HeldContainers.l1.eq_2 ..) (Ev.pos (by omega) (Ev.pos (by omega) (Ev.pos (by rw [e, less_fr]; exact decide_eq_true c) ?_)))
      rw [show wrap64 ((k : Int) + 1) = ((k + 1 : Nat) : Int) from by rw [w64 (by omega) (by omega)]; rfl]
      exact o4 r hr
    · have nc : ¬ Op.bytesLess (rdOf ByteArray.empty out (k : Int)).toList id.toList = true := by
        rw [e, less_fr]
        exact fun h => c (of_decide_eq_true h)
      by_cases c2 : out[k] = id
      · refine ⟨out, ho, fun x => ⟨.inl, fun h => h.elim (fun q => q) (fun h => by rw [h, ← c2]; exact List.getElem_mem hlt)⟩, by omega, fun r hr => ?_⟩
        refine Ev.step (fun q => spec_HeldContainers.l1.eq_2 ..) (Ev.pos (by omega) (Ev.pos (by omega) (Ev.neg nc (Ev.neg (by omega) (Ev.pos (by rw [e]; exact str_eq.2 c2) ?_)))))
        rw [wi]
        exact hr
      · have h2 : ∀ x ∈ out.drop k, frB id < frB x := by
          intro x hx
          have lt : frB id < frB out[k] := by
            rcases Decidable.em (frB id < frB out[k]) with q | q
            · exact q
            · exact absurd (fr_inj (List.le_antisymm (List.not_lt.1 q) (List.not_lt.1 c))) c2
          rw [List.drop_eq_getElem_cons hlt] at hx
          rcases List.mem_cons.1 hx with q | q
          · rw [q]
            exact lt
          · have ho' := ho
            unfold SortedB at ho'
            rw [← List.take_append_drop k out, List.drop_eq_getElem_cons hlt] at ho'
            have p2 := (List.pairwise_append.1 ho').2.1
            exact List.lt_trans lt ((List.pairwise_cons.1 p2).1 x q)
        obtain ⟨s1, s2⟩ := putIn out ho id k (by omega) h1 h2
        refine ⟨_, s1, s2, by simp; omega, fun r hr => Ev.step (fun q => spec_HeldContainers.l1.eq_2 ..) (Ev.pos (by omega) (Ev.pos (by omega) (Ev.neg nc (Ev.neg (by omega) (Ev.neg (by rw [e]; exact fun h => c2 (str_eq.1 h)) (Ev.some ?_))))))⟩
        rw [wi, Int.toNat_natCast]
        refine Ev.pos (by omega) (Ev.some (Ev.pos (by simp; omega) (Ev.some (Ev.some (Ev.pos (by simp; omega) (Ev.some (Ev.some (Ev.pos (by simp; omega) ?_))))))))
        rw [List.nil_append]
        exact hr
/-- The reference's way through the entries. -/
theorem heldSpec (xs : List S52) (hl : xs.length ≤ 1048577) (n : Nat) (hn : n ≤ xs.length) : ∀ d i : Nat, i + d = n → ∀ out : List ByteArray, SortedB out → out.length ≤ i →
    ∃ out' : List ByteArray, SortedB out' ∧ out'.length ≤ n ∧ (∀ x, x ∈ out' ↔ x ∈ out ∨ ∃ j : Nat, i ≤ j ∧ j < n ∧ (rd_T52 xs j).f1 = x ∧ holdN xs n x ≠ 0) ∧ Ev (fun k => spec_HeldContainers.l0 k xs out n i) (out', true) := by
  intro d
  induction d with
  | zero =>
    intro i hi out ho hol
    exact ⟨out, ho, by omega, fun x => ⟨.inl, fun h => h.elim (fun q => q) (fun ⟨j, h1, h2, _⟩ => absurd h2 (by omega))⟩, Ev.step (fun k => spec_HeldContainers.l0.eq_2 ..) (Ev.neg (by omega) (Ev.now _))⟩
  | succ d ih =>
    intro i hi out ho hol
    have w1 : wrap64 ((i : Int) + 1) = ((i + 1 : Nat) : Int) := by rw [w64 (by omega) (by omega)]; rfl
    have at1 := at_eq xs hl n hn (rd_T52 xs i).f1
    have S : ∀ r, Ev _ r → Ev (fun k => spec_HeldContainers.l0 k xs out n i) r := fun r hr => Ev.step (fun k => spec_HeldContainers.l0.eq_2 ..) (Ev.pos (by omega) (Ev.pos (by omega) (Ev.pos (by omega) (Ev.bind at1 hr))))
    by_cases c : holdN xs n (rd_T52 xs i).f1 = 0
    · obtain ⟨out', o1, o2, o3, o4⟩ := ih (i + 1) (by omega) out ho (by omega)
      rw [← w1] at o4
      refine ⟨out', o1, o2, fun x => (o3 x).trans ⟨fun h => h.imp (fun q => q) (fun ⟨j, h1, h2⟩ => ⟨j, by omega, h2⟩), fun h => h.imp (fun q => q) (fun ⟨j, h1, h2, h3, h4⟩ => ?_)⟩, S _ (Ev.pos c o4)⟩
      rcases Nat.lt_or_ge i j with q | q
      · exact ⟨j, by omega, h2, h3, h4⟩
      · obtain rfl : j = i := by omega
        rw [h3] at c
        exact absurd c h4
    · obtain ⟨out1, p1, p2, p3, p4⟩ := heldPut xs n i (by omega) (rd_T52 xs i).f1 out ho (by omega) out.length 0 (by omega) (fun x hx => by rw [List.take_zero] at hx; exact absurd hx List.not_mem_nil)
      obtain ⟨out', o1, o2, o3, o4⟩ := ih (i + 1) (by omega) out1 p1 (by omega)
      refine ⟨out', o1, o2, fun x => (o3 x).trans ⟨fun h => ?_, fun h => ?_⟩, S _ (Ev.neg c (p4 _ o4))⟩
      · rcases h with h | ⟨j, h1, h2⟩
        · rcases (p2 x).1 h with q | q
          · exact .inl q
          · exact .inr ⟨i, Nat.le_refl _, by omega, q.symm, by rw [q]; exact c⟩
        · exact .inr ⟨j, by omega, h2⟩
      · rcases h with h | ⟨j, h1, h2, h3, h4⟩
        · exact .inl ((p2 x).2 (.inl h))
        · rcases Nat.lt_or_ge i j with q | q
          · exact .inr ⟨j, by omega, h2, h3, h4⟩
          · obtain rfl : j = i := by omega
            exact .inl ((p2 x).2 (.inr h3.symm))
theorem heldConts (xs : List S52) (hl : xs.length ≤ 1048577) (hour : Int) : ∃ r : List ByteArray × Bool, Ev (fun k => spec_HeldContainers.f k xs hour) r ∧ Ev (fun k => impl_HeldContainers.f k xs hour) r ∧ r.1.length ≤ 1048577 ∧
    (r.2 = true → File xs ∧ (0 ≤ hour ∧ hour ≤ 240)) := by
  obtain ⟨b, h1, h2, h3⟩ := files xs hl
  unfold spec_HeldContainers.f impl_HeldContainers.f
  have jt : Ev (fun k => spec_HeldContainers.j0 k xs hour [] true) ([], false) := Ev.step (fun k => spec_HeldContainers.j0.eq_2 ..) (Ev.pos rfl (Ev.now _))
  have it : Ev (fun k => impl_HeldContainers.j0 k xs hour true) ([], false) := Ev.step (fun k => impl_HeldContainers.j0.eq_2 ..) (Ev.pos rfl (Ev.now _))
  by_cases c : b = true
  · have hf := h3.1 c
    by_cases c2 : 0 ≤ hour ∧ hour ≤ 240
    · obtain ⟨n, n1, _, _, n4, _⟩ := by_hour xs hf ByteArray.empty hour
      have hon : ∀ s, Ev (fun k => impl_holdsOn.f k xs s hour) (holdN xs n s) := by
        intro s
        obtain ⟨m, _, _, _, m4, m5⟩ := by_hour xs hf s hour
        have e := Ev.funct n4 m4
        obtain rfl : n = m := by omega
        exact m5
      obtain ⟨out, o1, o2, o3, o4⟩ := heldSpec xs hl n n1 n 0 (by omega) [] List.Pairwise.nil (Nat.zero_le _)
      have im := heldImpl xs hl hour n hon xs.length 0 (by omega) [] (Nat.zero_le _)
      obtain ⟨s1, s2⟩ := sortedOf ([] ++ heldL xs n xs.length 0)
      have e := sortedB_ext _ _ s1 o1 fun x => by
        rw [s2, o3, List.nil_append, mem_heldL]
        refine ⟨fun ⟨j, _, h2, h3, h4⟩ => ?_, fun h => ?_⟩
        · obtain ⟨j', p1, p2⟩ := hold_some xs x n h4
          exact .inr ⟨j', Nat.zero_le _, p1, p2, h4⟩
        · rcases h with h | ⟨j, _, h2, h3, h4⟩
          · exact absurd h List.not_mem_nil
          · exact ⟨j, Nat.zero_le _, by omega, h3, h4⟩
      rw [e] at im
      exact ⟨(out, true), Ev.some (Ev.bind h1 (Ev.pos c (Ev.const (hour_eq hour) (Ev.step (fun k => spec_HeldContainers.j0.eq_2 ..) (Ev.neg (by simp [c2]) (Ev.bind n4 o4)))))),
        Ev.bind h2 (Ev.pos c (Ev.const (within_eq _ _ _) (Ev.step (fun k => impl_HeldContainers.j0.eq_2 ..) (Ev.neg (by simp [c2]) im)))), by show out.length ≤ _; omega, fun _ => ⟨hf, c2⟩⟩
    · refine ⟨([], false), Ev.some (Ev.bind h1 (Ev.pos c (Ev.const (hour_eq hour) ?_))), Ev.bind h2 (Ev.pos c (Ev.const (within_eq _ _ _) ?_)), by simp, fun h => by cases h⟩
      · rw [show (!decide (0 ≤ hour ∧ hour ≤ 240)) = true from by simp; omega]
        exact jt
      · rw [show (!decide (0 ≤ hour ∧ hour ≤ 240)) = true from by simp; omega]
        exact it
  · exact ⟨([], false), Ev.some (Ev.bind h1 (Ev.neg c jt)), Ev.bind h2 (Ev.neg c it), by simp, fun h => by cases h⟩

theorem strOne_size (x : Int) : (strOfNums [x]).size = 1 := rfl
/-- The text of a mark. -/
theorem markText_at : ∀ (n : Nat) (v : Int) (s : ByteArray), 0 ≤ v → v.toNat ≤ n → (s.size : Int) + v ≤ 1000000000000 → ∃ t, Ev (fun k => laws_markText.l0 k v s) t := by
  intro n
  induction n with
  | zero =>
    intro v s h0 h1 h2
    exact ⟨_, Ev.step (fun k => laws_markText.l0.eq_2 ..) (Ev.neg (by omega) (Ev.pos (by omega) (Ev.now _)))⟩
  | succ n ih =>
    intro v s h0 h1 h2
    by_cases c : v > 0
    · have e : wrap64 (Int.tdiv v 10) = v / 10 := by
        rw [Int.tdiv_eq_ediv_of_nonneg h0, w64 (by omega) (by omega)]
      obtain ⟨t, ht⟩ := ih (v / 10) ((strOfNums [(wrap64 (48 + (Int.tmod v 10))) % 256]) ++ s) (by omega) (by omega) (by rw [ByteArray.size_append, strOne_size]; omega)
      refine ⟨t, Ev.step (fun k => laws_markText.l0.eq_2 ..) (Ev.pos c (Ev.some (Ev.pos (by rw [strOne_size]; omega) ?_)))⟩
      rw [e]
      exact ht
    · exact ⟨_, Ev.step (fun k => laws_markText.l0.eq_2 ..) (Ev.neg c (Ev.pos (by omega) (Ev.now _)))⟩
theorem markText_ex (v : Int) : ∃ t, 0 ≤ v → v ≤ 100000000000 → Ev (fun k => laws_markText.f k v) t := by
  by_cases h : 0 ≤ v ∧ v ≤ 100000000000
  · by_cases c : v ≤ 0
    · exact ⟨_, fun _ _ => by unfold laws_markText.f; exact Ev.pos c (Ev.now _)⟩
    · obtain ⟨t, ht⟩ := markText_at v.toNat v (⟨#[]⟩ : ByteArray) h.1 (Nat.le_refl _) (by show ((0 : Nat) : Int) + v ≤ _; omega)
      exact ⟨t, fun _ _ => by unfold laws_markText.f; exact Ev.neg c ht⟩
  · exact ⟨⟨#[]⟩, fun h0 h1 => absurd ⟨h0, h1⟩ h⟩
noncomputable def mtxt (v : Int) : ByteArray := Classical.choose (markText_ex v)
theorem markText_eq (v : Int) (h0 : 0 ≤ v) (h1 : v ≤ 100000000000) : Ev (fun k => laws_markText.f k v) (mtxt v) := Classical.choose_spec (markText_ex v) h0 h1

noncomputable def mkEntry (v : Int) : S52 := ⟨v, mtxt (v + 1), Int.tmod (v + 2) 3 == 0, v + 3⟩
theorem markEntryS' (l : List S52) (hl : l.length ≤ 1048577) (a : Int) (h0 : 0 ≤ a) (h1 : a ≤ 1000000000) : ∃ ys : List S52, Ev (fun k => laws_markEntryS.f k l a) (a + 4 * l.length, ys) := by
  unfold laws_markEntryS.f
  obtain ⟨zs, z1, z2, z3⟩ := mark_ev l.length 4 a mkEntry (fun k ys v i => laws_markEntryS.l0 k ys v i) (fun i h ys hy r hr => by
    have e1 : wrap64 (a + 4 * i + 1) = a + 4 * i + 1 := w64 (by omega) (by omega)
    have e2 : wrap64 (a + 4 * i + 1 + 1) = a + 4 * i + 2 := by rw [w64 (by omega) (by omega)]; omega
    have e4 : wrap64 (a + 4 * i + 2 + 1) = a + 4 * i + 3 := by rw [w64 (by omega) (by omega)]; omega
    have e5 : wrap64 (a + 4 * i + 3 + 1) = a + 4 * ((i + 1 : Nat) : Int) := by rw [w64 (by omega) (by omega)]; omega
    have e3 : wrap64 ((i : Int) + 1) = ((i + 1 : Nat) : Int) := by rw [w64 (by omega) (by omega)]; rfl
    refine Ev.step (fun k => laws_markEntryS.l0.eq_2 ..) (Ev.pos (by omega) (Ev.pos (by omega) (Ev.some ?_)))
    rw [e1, e2, e3, e4, e5]
    refine Ev.bind (markText_eq _ (by omega) (by omega)) (Ev.some (Ev.some ?_))
    simp only [rd_T52, Int.toNat_natCast, List.set_set]
    rw [set_getD (by omega), set_getD (by omega), set_getD (by omega)]
    exact hr) (fun ys hy => Ev.step (fun k => laws_markEntryS.l0.eq_2 ..) (Ev.neg (by omega) (Ev.now _))) l rfl
  exact ⟨zs, z3⟩


theorem eqStringS (l : List ByteArray) (hl : l.length ≤ 1000000000) : Ev (fun k => laws_eqStringS.f k l l) true := by
  unfold laws_eqStringS.f
  refine Ev.pos rfl ?_
  refine down_ev l.length (fun k i => laws_eqStringS.l0 k l l i) ?_ ?_
  · intro i h hr
    refine Ev.step (fun k => laws_eqStringS.l0.eq_2 ..) (Ev.pos (by omega) (Ev.pos (by omega) (Ev.pos (by omega) (Ev.pos rfl ?_))))
    rw [w64 (by omega) (by omega)]
    exact hr
  · exact Ev.step (fun k => laws_eqStringS.l0.eq_2 ..) (Ev.neg (by omega) (Ev.now _))
theorem markStringS (l : List ByteArray) (hl : l.length ≤ 1048577) (a : Int) (h0 : 0 ≤ a) (h1 : a ≤ 1000000000) : ∃ ys : List ByteArray, Ev (fun k => laws_markStringS.f k l a) (a + 1 * l.length, ys) ∧ Ev (fun k => laws_heldStringS.f k ys a) (a + 1 * l.length) := by
  unfold laws_markStringS.f laws_heldStringS.f
  obtain ⟨zs, z1, z2, z3⟩ := mark_ev l.length 1 a mtxt (fun k ys v i => laws_markStringS.l0 k ys v i) (fun i h ys hy r hr => by
    have e5 : wrap64 (a + 1 * i + 1) = a + 1 * ((i + 1 : Nat) : Int) := by rw [w64 (by omega) (by omega)]; omega
    have e3 : wrap64 ((i : Int) + 1) = ((i + 1 : Nat) : Int) := by rw [w64 (by omega) (by omega)]; rfl
    refine Ev.step (fun k => laws_markStringS.l0.eq_2 ..) (Ev.pos (by omega) (Ev.bind (markText_eq _ (by omega) (by omega)) (Ev.pos (by omega) ?_)))
    rw [e3, e5, Int.toNat_natCast]
    exact hr) (fun ys hy => Ev.step (fun k => laws_markStringS.l0.eq_2 ..) (Ev.neg (by omega) (Ev.now _))) l rfl
  refine ⟨zs, z3, ?_⟩
  have held : ∀ d i : Nat, i + d = l.length → Ev (fun k => laws_heldStringS.l0 k zs (a + 1 * i) i) (a + 1 * l.length) := by
    intro d
    induction d with
    | zero =>
      intro i hi
      obtain rfl : i = l.length := by omega
      exact Ev.step (fun k => laws_heldStringS.l0.eq_2 ..) (Ev.neg (by omega) (Ev.now _))
    | succ d ih =>
      intro i hi
      have := ih (i + 1) (by omega)
      have e5 : wrap64 (a + 1 * i + 1) = a + 1 * ((i + 1 : Nat) : Int) := by rw [w64 (by omega) (by omega)]; omega
      have e3 : wrap64 ((i : Int) + 1) = ((i + 1 : Nat) : Int) := by rw [w64 (by omega) (by omega)]; rfl
      have e6 : rdOf ByteArray.empty zs (i : Int) = mtxt (a + 1 * i) := by
        unfold rdOf
        rw [Int.toNat_natCast]
        exact getD_of (z2 i (by omega))
      refine Ev.step (fun k => laws_heldStringS.l0.eq_2 ..) (Ev.pos (by omega) (Ev.pos (by omega) (Ev.bind (markText_eq _ (by omega) (by omega)) ?_)))
      rw [e6, e3, e5]
      exact Ev.pos rfl this
  simpa using held l.length 0 (by omega)

theorem FnExactHeldContainers : ∀ (l0 : (List S72)) (a1 : Int), (l0.length ≤ 9223372036854775807 ∧ ∀ x ∈ l0, inv72 x) → (Lit.int .i64 a1).wf = true → ∃ k, laws_FnExactHeldContainers.f k l0 a1 = some true := by
  intro l0 a1 ⟨hl, hx⟩ _
  refine Ev.rounds ?_
  unfold laws_FnExactHeldContainers.f
  obtain ⟨z, z1, z2⟩ := szEntryS l0 hl (fun x h => (hx x h).2.1)
  refine Ev.bind z1 ?_
  by_cases hz : z < 0
  · exact Ev.pos hz (Ev.now _)
  · refine Ev.neg hz ?_
    obtain ⟨hn, _⟩ := z2 (by omega)
    obtain ⟨r, h1, h2, h3, _⟩ := heldConts (l0.map convEntry) (by simp; omega) a1
    have tv := toEntryS l0 hn
    have ar := eqEntryS (l0.map convEntry) (by simp; omega)
    have er := eqStringS r.1 (by omega)
    obtain ⟨m1, m2⟩ := markEntryS' (l0.map convEntry) (by simp; omega) 1 (by omega) (by omega)
    obtain ⟨n1, n2, n3⟩ := markStringS r.1 (by omega) 1 (by omega) (by omega)
    refine Ev.bind tv (Ev.bind h1 (Ev.bind tv (Ev.bind h2 (Ev.bind er (Ev.pos rfl ?_)))))
    refine Ev.step (fun k => laws_FnExactHeldContainers.j0.eq_2 ..) (Ev.neg (by simp) (Ev.bind tv (Ev.bind ar (Ev.pos rfl (Ev.bind m2 (Ev.neg (by simp; omega) (Ev.bind er (Ev.pos rfl ?_))))))))
    refine Ev.step (fun k => laws_FnExactHeldContainers.j1.eq_2 ..) (Ev.neg (by simp) (Ev.bind n2 (Ev.bind n3 (Ev.neg (by omega) (Ev.pos rfl (Ev.bind tv (Ev.bind h2 (Ev.bind er (Ev.pos rfl ?_)))))))))
    exact Ev.step (fun k => laws_FnExactHeldContainers.j2.eq_2 ..) (Ev.neg (by simp) (Ev.bind n3 (Ev.neg (by omega) (Ev.pos rfl (Ev.now _)))))
end Go.Proofs.Yteebkbikpamkmaa.Pure
