/- The program's EmptyWagons returns what the reference's returns, for all arguments; the arguments read as they did, and the result is new memory. No condition. -/
import Derived.Test.YthfbnadlpninaaaInvFnExactEmptyWagons
import Derived.Test.YthfbnadlpninaaaWHelp
namespace Go.Proofs.Ythfbnadlpninaaa.Pure
open Go.RowKit Go.Proofs.YthfbnadlpninaaaW.PrintWords Go.Proofs.YthfbnadlpninaaaW.PrintLast Go.Proofs.YthfbnadlpninaaaW.PrintMore Go.Proofs.YthfbnadlpninaaaW.Help Go.Proofs.Ythfbnadlpninaaa.PFnExactEmptyWagons
set_option linter.unusedVariables false
def convWagon (x : S74) : S70 := ⟨x.f0, x.f1⟩
theorem szWagonS (l : List S74) (a : Int) (h0 : 0 ≤ a) (h1 : a ≤ 1048576) (hl : l.length ≤ 9223372036854775807) :
  laws_szWagonS.f l a = some (if a < l.length then -1 else a - l.length) := by
 unfold laws_szWagonS.f
 rw [w64 (by omega) (by omega)]
 by_cases h : a < l.length
 ·rw [if_pos (by omega), if_pos h]
 ·rw [if_neg (by omega), if_neg h]
theorem toWagonS (l : List S74) (hl : l.length ≤ 1048576) : Ev (fun k => laws_toWagonS.f k l) (l.map convWagon) := by
 unfold laws_toWagonS.f
 refine Ev.pos (by omega) (Ev.pos (by omega) ?_)
 simp only [Int.toNat_natCast]
 refine fill_ev l convWagon z70 (fun k ys i => laws_toWagonS.l0 k l ys i) ?_ ?_
 ·intro i h ys hy r hr
  refine Ev.step (fun k => laws_toWagonS.l0.eq_2 ..) ?_
  refine Ev.pos (by omega) (Ev.pos (by omega) ?_)
  refine Ev.const (a := (l[i].f0, l[i].f1)) (by simp [laws_toWagon.f, rd_T74, h]) ?_
  refine Ev.pos (by omega) ?_
  rw [w64 (by omega) (by omega)]
  exact hr
 ·intro ys hy
  refine Ev.step (fun k => laws_toWagonS.l0.eq_2 ..) ?_
  exact Ev.neg (by omega) (Ev.now _)
theorem eqWagonS (l : List S70) (hl : l.length ≤ 1048577) : Ev (fun k => laws_eqWagonS.f k l l) true := by
 unfold laws_eqWagonS.f
 refine Ev.pos rfl ?_
 refine down_ev l.length (fun k i => laws_eqWagonS.l0 k l l i) ?_ ?_
 ·intro i h hr
  refine Ev.step (fun k => laws_eqWagonS.l0.eq_2 ..) ?_
  refine Ev.pos (by omega) (Ev.pos (by omega) (Ev.pos (by omega) ?_))
  refine Ev.const (a := true) (by simp [laws_eqWagon.f]) ?_
  refine Ev.pos rfl ?_
  rw [w64 (by omega) (by omega)]
  exact hr
 ·refine Ev.step (fun k => laws_eqWagonS.l0.eq_2 ..) ?_
  exact Ev.neg (by omega) (Ev.now _)
theorem str_ext {s t : ByteArray} (h : s.data.toList = t.data.toList) : s = t := by
 obtain ⟨⟨a⟩⟩ := s
 obtain ⟨⟨b⟩⟩ := t
 have h' : a = b := h
 rw [h']
theorem str_eq {s t : ByteArray} : s.toList = t.toList ↔ s = t := by
 rw [ByteArray.toList_eq, ByteArray.toList_eq]
 exact ⟨str_ext, fun h => by rw [h]⟩
theorem szContainerS (l : List S80) (a : Int) (ha0 : 0 ≤ a) (ha : a ≤ 1048576) (hl : l.length ≤ 9223372036854775807) (hx : ∀ x ∈ l, x.f0.size ≤ 9223372036854775807) : ∃ r : Int, Ev (fun k => laws_szContainerS.f k l a) r ∧ (0 ≤ r → l.length ≤ 1048576 ∧ ∀ x ∈ l, x.f0.size ≤ 1048576) := by
 unfold laws_szContainerS.f
 rw [w64 (by omega) (by omega)]
 by_cases c : a < l.length
 ·exact ⟨-1, Ev.pos (by omega) (Ev.now _), fun h => by omega⟩
 ·have main : ∀ d i : Nat, i + d = l.length → ∀ a : Int, 0 ≤ a → a ≤ 1048576 → ∃ r : Int, Ev (fun k => laws_szContainerS.l0 k l a i) r ∧ (0 ≤ r → ∀ j : Nat, i ≤ j → (h : j < l.length) → l[j].f0.size ≤ 1048576) := by
   intro d
   induction d with
   | zero =>
    intro i hi a h0 h1
    exact ⟨a, Ev.step (fun k => laws_szContainerS.l0.eq_2 ..) (Ev.neg (by omega) (Ev.now _)), fun _ j hj h => by omega⟩
   | succ d ih =>
    intro i hi a h0 h1
    have e : rd_T80 l (i : Int) = l[i]'(by omega) := by
     unfold rd_T80
     rw [Int.toNat_natCast]
     exact getD_of (List.getElem?_eq_getElem (by omega))
    have hxi := hx (l[i]'(by omega)) (List.getElem_mem _)
    have w1 : wrap64 ((i : Int) + 1) = ((i + 1 : Nat) : Int) := by rw [w64 (by omega) (by omega)]; rfl
    have w2 : wrap64 (a - ((l[i]'(by omega)).f0.size : Int)) = a - ((l[i]'(by omega)).f0.size : Int) := w64 (by omega) (by omega)
    have sz : laws_szContainer.f (l[i]'(by omega)).f0 (l[i]'(by omega)).f1 (l[i]'(by omega)).f2 (l[i]'(by omega)).f3 (l[i]'(by omega)).f4 a = some (if a < (l[i]'(by omega)).f0.size then -1 else a - (l[i]'(by omega)).f0.size) := by
     unfold laws_szContainer.f
     rw [w2]
     by_cases q : a < (l[i]'(by omega)).f0.size
     ·rw [if_pos (by omega), if_pos q]
     ·rw [if_neg (by omega), if_neg q]
    clear w2
    by_cases q : a < (l[i]'(by omega)).f0.size
    ·rw [if_pos q] at sz
     refine ⟨-1, Ev.step (fun k => laws_szContainerS.l0.eq_2 ..) (Ev.pos (by omega) (Ev.pos (by omega) ?_)), fun h => by omega⟩
     rw [e]
     exact Ev.const sz (Ev.pos (by omega) (Ev.now _))
    ·rw [if_neg q] at sz
     obtain ⟨r, r1, r2⟩ := ih (i + 1) (by omega) (a - (l[i]'(by omega)).f0.size) (by omega) (by omega)
     refine ⟨r, Ev.step (fun k => laws_szContainerS.l0.eq_2 ..) (Ev.pos (by omega) (Ev.pos (by omega) ?_)), fun h j hj hlt => ?_⟩
     ·rw [e, w1]
      exact Ev.const sz (Ev.neg (by omega) r1)
     ·rcases Nat.lt_or_ge i j with h3 | h3
      ·exact r2 h j h3 hlt
      ·obtain rfl : j = i := by omega
       omega
  obtain ⟨r, r1, r2⟩ := main l.length 0 (by omega) (a - l.length) (by omega) (by omega)
  refine ⟨r, Ev.neg (by omega) r1, fun h => ⟨by omega, fun x hx' => ?_⟩⟩
  obtain ⟨j, hj, rfl⟩ := List.getElem_of_mem hx'
  exact r2 h j (by omega) hj
def convContainer (x : S80) : S64 := ⟨x.f0, x.f1, x.f2, x.f3, x.f4⟩
theorem toContainerS (l : List S80) (hl : l.length ≤ 1048576) : Ev (fun k => laws_toContainerS.f k l) (l.map convContainer) := by
 unfold laws_toContainerS.f
 refine Ev.pos (by omega) (Ev.pos (by omega) ?_)
 simp only [Int.toNat_natCast]
 refine fill_ev l convContainer z64 (fun k ys i => laws_toContainerS.l0 k l ys i) ?_ ?_
 ·intro i h ys hy r hr
  refine Ev.step (fun k => laws_toContainerS.l0.eq_2 ..) (Ev.pos (by omega) (Ev.pos (by omega) ?_))
  refine Ev.const (a := (l[i].f0, l[i].f1, l[i].f2, l[i].f3, l[i].f4)) (by simp [laws_toContainer.f, rd_T80, h]) ?_
  refine Ev.pos (by omega) ?_
  rw [w64 (by omega) (by omega)]
  exact hr
 ·intro ys hy
  exact Ev.step (fun k => laws_toContainerS.l0.eq_2 ..) (Ev.neg (by omega) (Ev.now _))
theorem eqContainerS (l : List S64) (hl : l.length ≤ 1048577) : Ev (fun k => laws_eqContainerS.f k l l) true := by
 unfold laws_eqContainerS.f
 refine Ev.pos rfl ?_
 refine down_ev l.length (fun k i => laws_eqContainerS.l0 k l l i) ?_ ?_
 ·intro i h hr
  refine Ev.step (fun k => laws_eqContainerS.l0.eq_2 ..) (Ev.pos (by omega) (Ev.pos (by omega) (Ev.pos (by omega) ?_)))
  refine Ev.const (a := true) (by simp [laws_eqContainer.f]) (Ev.pos rfl ?_)
  rw [w64 (by omega) (by omega)]
  exact hr
 ·exact Ev.step (fun k => laws_eqContainerS.l0.eq_2 ..) (Ev.neg (by omega) (Ev.now _))
theorem toIntS (l : List Int) (hl : l.length ≤ 1048576) : Ev (fun k => laws_toIntS.f k l) l := by
 unfold laws_toIntS.f
 refine Ev.pos (by omega) (Ev.pos (by omega) ?_)
 simp only [Int.toNat_natCast]
 refine Ev.eq (fill_ev l (fun x => x) 0 (fun k ys i => laws_toIntS.l0 k l ys i) ?_ ?_) (List.map_id' l)
 ·intro i h ys hy r hr
  refine Ev.step (fun k => laws_toIntS.l0.eq_2 ..) (Ev.pos (by omega) (Ev.pos (by omega) (Ev.pos (by omega) ?_)))
  rw [w64 (by omega) (by omega)]
  have e : rd l (i : Int) = l[i] := by
   unfold rd
   rw [Int.toNat_natCast]
   exact getD_of (List.getElem?_eq_getElem h)
  rw [e, Int.toNat_natCast]
  exact hr
 ·intro ys hy
  exact Ev.step (fun k => laws_toIntS.l0.eq_2 ..) (Ev.neg (by omega) (Ev.now _))
theorem l1In_eq (a b c : Int) : spec_l1In.f a b c = some (decide (b ≤ a ∧ a ≤ c)) := by
 unfold spec_l1In.f
 by_cases h : b ≤ a <;> simp [h]
theorem within_eq (a b c : Int) : impl_within.f a b c = some (decide (b ≤ a ∧ a ≤ c)) := by
 unfold impl_within.f
 by_cases h : b ≤ a <;> simp [h]
def wagonOk (x : S70) : Prop := (1 ≤ x.f0 ∧ x.f0 ≤ 3) ∧ (1 ≤ x.f1 ∧ x.f1 ≤ 100000)
instance (x : S70) : Decidable (wagonOk x) := by unfold wagonOk; infer_instance
def Train (ts : List S70) : Prop := (1 ≤ (ts.length : Int) ∧ (ts.length : Int) ≤ 8) ∧ ∀ j : Nat, j < ts.length → wagonOk (rd_T70 ts j)
theorem notWagon (x : S70) : impl_IsValidTrain_1.f x.f0 x.f1 = some (!decide (wagonOk x)) := by
 unfold impl_IsValidTrain_1.f wagonOk
 rw [within_eq, within_eq]
 by_cases h : 1 ≤ x.f0 ∧ x.f0 ≤ 3
 ·simp only [h, Option.bind_some, true_and, and_self, decide_true, if_true]
 ·simp only [h, Option.bind_some, false_and, decide_false]
  rfl
theorem trainLoop (ts : List S70) (hl : ts.length ≤ 1048577) : ∀ d i : Nat, i + d = ts.length → ∃ (b : Bool) (q : Int), Ev (fun k => spec_l19Train.l0 k ts i) (b && decide (1 ≤ (ts.length : Int) ∧ (ts.length : Int) ≤ 8)) ∧
  Ev (fun k => slices_IndexFunc_impl_Wagon.l0 k ts ts.length i) q ∧ (!decide (q ≥ 0)) = b ∧ (b = true ↔ ∀ j : Nat, i ≤ j → j < ts.length → wagonOk (rd_T70 ts j)) := by
 intro d
 induction d with
 | zero =>
  intro i hi
  exact ⟨true, -1, Ev.step (fun k => spec_l19Train.l0.eq_2 ..) (Ev.neg (by omega) (Ev.const (l1In_eq _ _ _) (Ev.eq (Ev.now _) (Bool.true_and _).symm))), Ev.step (fun k => slices_IndexFunc_impl_Wagon.l0.eq_2 ..) (Ev.neg (by omega) (Ev.now _)), rfl, ⟨fun _ j h1 h2 => absurd h2 (by omega), fun _ => rfl⟩⟩
 | succ d ih =>
  intro i hi
  have li : (i : Int) < ts.length := by omega
  have l0 : (0 : Int) ≤ i := by omega
  have w1 : wrap64 ((i : Int) + 1) = ((i + 1 : Nat) : Int) := by rw [w64 (by omega) (by omega)]; rfl
  have no := notWagon (rd_T70 ts i)
  by_cases c : wagonOk (rd_T70 ts i)
  ·obtain ⟨b, q, h1, h2, h3, h4⟩ := ih (i + 1) (by omega)
   rw [← w1] at h1 h2
   refine ⟨b, q, ?_, ?_, h3, h4.trans ⟨fun h j j1 j2 => ?_, fun h j j1 j2 => h j (by omega) j2⟩⟩
   ·exact Ev.step (fun k => spec_l19Train.l0.eq_2 ..) (Ev.pos li (Ev.pos l0 (Ev.const (l1In_eq _ _ _) (Ev.pos (decide_eq_true c.1) (Ev.const (l1In_eq _ _ _) (Ev.pos (decide_eq_true c.2) h1))))))
   ·refine Ev.step (fun k => slices_IndexFunc_impl_Wagon.l0.eq_2 ..) (Ev.pos li (Ev.pos l0 (Ev.pos li (Ev.const no (Ev.neg ?_ h2)))))
    rw [decide_eq_true c]
    exact fun h => by cases h
   ·rcases Nat.lt_or_ge i j with q | q
    ·exact h j q j2
    ·obtain rfl : j = i := by omega
     exact c
  ·refine ⟨false, i, ?_, ?_, by simp, ⟨fun h => (by cases h), fun h => absurd (h i (Nat.le_refl _) (by omega)) c⟩⟩
   ·refine Ev.step (fun k => spec_l19Train.l0.eq_2 ..) (Ev.pos li (Ev.pos l0 (Ev.const (l1In_eq _ _ _) (Ev.ite (fun h1 => Ev.const (l1In_eq _ _ _) (Ev.neg (fun h2 => c ⟨of_decide_eq_true h1, of_decide_eq_true h2⟩) (Ev.now _))) (fun _ => Ev.now _)))))
   ·refine Ev.step (fun k => slices_IndexFunc_impl_Wagon.l0.eq_2 ..) (Ev.pos li (Ev.pos l0 (Ev.pos li (Ev.const no (Ev.pos ?_ (Ev.now _))))))
    rw [decide_eq_false c]
    rfl
theorem train (ts : List S70) (hl : ts.length ≤ 1048577) : ∃ b : Bool, Ev (fun k => spec_l19Train.f k ts) b ∧ Ev (fun k => impl_IsValidTrain.f k ts) b ∧ (b = true ↔ Train ts) := by
 obtain ⟨b, q, h1, h2, h3, h4⟩ := trainLoop ts hl ts.length 0 (by omega)
 unfold spec_l19Train.f impl_IsValidTrain.f slices_ContainsFunc_impl_Wagon.f slices_IndexFunc_impl_Wagon.f
 by_cases c : 1 ≤ (ts.length : Int) ∧ (ts.length : Int) ≤ 8
 ·rw [decide_eq_true c, Bool.and_true] at h1
  exact ⟨b, h1, Ev.const (within_eq _ _ _) (Ev.pos (decide_eq_true c) (Ev.bind (Ev.bind h2 (Ev.now _)) (Ev.eq (Ev.now _) h3))), h4.trans ⟨fun h => ⟨c, fun j hj => h j (by omega) hj⟩, fun h j _ hj => h.2 j hj⟩⟩
 ·rw [decide_eq_false c, Bool.and_false] at h1
  exact ⟨false, h1, Ev.const (within_eq _ _ _) (Ev.neg (fun h => c (of_decide_eq_true h)) (Ev.now _)), ⟨fun h => (by cases h), fun h => absurd h.1 c⟩⟩
def okB (s : ByteArray) (i : Nat) : Prop := (i < 3 → 65 ≤ bt s i ∧ bt s i ≤ 90) ∧ (3 ≤ i → 48 ≤ bt s i ∧ bt s i ≤ 57)
theorem bt_bd (s : ByteArray) (i : Int) : 0 ≤ bt s i ∧ bt s i ≤ 255 := by
 unfold bt
 split
 ·rename_i h
  have := (s[i.toNat]'h).toNat_lt
  omega
 ·omega
theorem letters (s : ByteArray) (hs : s.size = 7) : ∀ d i : Nat, i + d = 7 → ∀ a : Int, 0 ≤ a → a ≤ 1000 * i → ∃ (b : Bool) (c : Int), Ev (fun k => spec_l2Seven.l0 k s i) b ∧ Ev (fun k => impl_checkLetter.l0 k s a 7 i) (if b = true then (c, true) else (0, false)) ∧ (b = true → Ev (fun k => spec_l2Check.l0 k s a i) c) := by
 intro d
 induction d with
 | zero =>
  intro i hi a h0 h1
  obtain rfl : i = 7 := by omega
  have e : Int.tmod a 23 = a % 23 := Int.tmod_eq_emod_of_nonneg h0
  have e1 : wrap64 (65 + a % 23) = 65 + a % 23 := w64 (by omega) (by omega)
  refine ⟨true, (65 + (a % 23) % 256) % 256, Ev.step (fun k => spec_l2Seven.l0.eq_2 ..) (Ev.neg (by omega) (Ev.now _)), Ev.step (fun k => impl_checkLetter.l0.eq_2 ..) (Ev.neg (by omega) (Ev.eq (Ev.now _) ?_)), fun _ => Ev.step (fun k => spec_l2Check.l0.eq_2 ..) (Ev.neg (by omega) (Ev.eq (Ev.now _) ?_))⟩
  ·rw [e, e1, if_pos rfl]
   congr 1
   omega
  ·rw [e]
 | succ d ih =>
  intro i hi a h0 h1
  have w1 : wrap64 ((i : Int) + 1) = ((i + 1 : Nat) : Int) := by rw [w64 (by omega) (by omega)]; rfl
  have w2 : wrap64 ((i : Int) + 2) = (i : Int) + 2 := w64 (by omega) (by omega)
  have hb := bt_bd s i
  have hsz : (s.size : Int) = 7 := by omega
  generalize hv : bt s i = v at hb
  have w3 : wrap64 v = v := w64 (by omega) (by omega)
  have w4 : wrap64 (v - 65) = v - 65 := w64 (by omega) (by omega)
  have w5 : wrap64 (v - 65 + 1) = v - 65 + 1 := w64 (by omega) (by omega)
  have w6 : wrap64 (v - 48) = v - 48 := w64 (by omega) (by omega)
  by_cases c3 : i < 3
  ·by_cases c : 65 ≤ v ∧ v ≤ 90
   ·have m1 : (v - 65) % 256 = v - 65 := by omega
    have p1 : 0 ≤ ((i : Int) + 2) * (v - 65 + 1) ∧ ((i : Int) + 2) * (v - 65 + 1) ≤ 26 * ((i : Int) + 2) := by
     have h3 : ((i : Int) + 2) * (v - 65 + 1) ≤ ((i : Int) + 2) * 26 := Int.mul_le_mul_of_nonneg_left (by omega) (by omega)
     exact ⟨Int.mul_nonneg (by omega) (by omega), by omega⟩
    have w7 : wrap64 (((i : Int) + 2) * (v - 65 + 1)) = ((i : Int) + 2) * (v - 65 + 1) := w64 (by omega) (by omega)
    have w8 : wrap64 (a + ((i : Int) + 2) * (v - 65 + 1)) = a + ((i : Int) + 2) * (v - 65 + 1) := w64 (by omega) (by omega)
    obtain ⟨b, cc, s1, s2, s3⟩ := ih (i + 1) (by omega) (a + ((i : Int) + 2) * (v - 65 + 1)) (by omega) (by omega)
    refine ⟨b, cc, Ev.step (fun k => spec_l2Seven.l0.eq_2 ..) ?_, Ev.step (fun k => impl_checkLetter.l0.eq_2 ..) ?_, fun h => Ev.step (fun k => spec_l2Check.l0.eq_2 ..) ?_⟩
    ·rw [hv, w1, hsz]
     exact Ev.pos (by omega) (Ev.pos (by omega) (Ev.pos (by omega) (Ev.pos (by omega) (Ev.neg (by omega) (Ev.neg (by omega) (Ev.neg (by omega) s1))))))
    ·rw [hv, hsz]
     refine Ev.pos (by omega) (Ev.pos (by omega) (Ev.pos (by omega) (Ev.pos (by omega) (Ev.pos (by omega) ?_))))
     refine Ev.step (fun k => impl_checkLetter.j1.eq_2 ..) (Ev.pos (by simp; omega) ?_)
     rw [w1, w2, m1, w7, w8]
     exact s2
    ·rw [hv, hsz]
     refine Ev.pos (by omega) (Ev.pos (by omega) (Ev.pos (by omega) (Ev.pos (by omega) ?_)))
     rw [w1, w2, w3, w4, w5, Int.mul_comm (v - 65 + 1), w7, w8]
     exact s3 h
   ·refine ⟨false, 0, Ev.step (fun k => spec_l2Seven.l0.eq_2 ..) ?_, Ev.step (fun k => impl_checkLetter.l0.eq_2 ..) ?_, fun h => by cases h⟩
    ·rw [hv, hsz]
     refine Ev.pos (by omega) (Ev.pos (by omega) (Ev.pos (by omega) (Ev.pos (by omega) ?_)))
     exact Ev.ite (fun _ => Ev.now _) (fun q => Ev.pos (by omega) (Ev.now _))
    ·rw [hv, hsz]
     refine Ev.pos (by omega) (Ev.pos (by omega) (Ev.pos (by omega) (Ev.pos (by omega) ?_)))
     have jj : Ev (fun k => impl_checkLetter.j1 k s a i v 7 i false) (0, false) := Ev.step (fun k => impl_checkLetter.j1.eq_2 ..) (Ev.neg (by simp) (Ev.neg (by omega) (Ev.now _)))
     refine Ev.ite (fun q => ?_) (fun _ => jj)
     rw [show decide (v ≤ 90) = false from by simp; omega]
     exact jj
  ·by_cases c : 48 ≤ v ∧ v ≤ 57
   ·have m1 : (v - 48) % 256 = v - 48 := by omega
    have p1 : 0 ≤ ((i : Int) + 2) * (v - 48) ∧ ((i : Int) + 2) * (v - 48) ≤ 9 * ((i : Int) + 2) := by
     have h3 : ((i : Int) + 2) * (v - 48) ≤ ((i : Int) + 2) * 9 := Int.mul_le_mul_of_nonneg_left (by omega) (by omega)
     exact ⟨Int.mul_nonneg (by omega) (by omega), by omega⟩
    have w7 : wrap64 (((i : Int) + 2) * (v - 48)) = ((i : Int) + 2) * (v - 48) := w64 (by omega) (by omega)
    have w8 : wrap64 (a + ((i : Int) + 2) * (v - 48)) = a + ((i : Int) + 2) * (v - 48) := w64 (by omega) (by omega)
    obtain ⟨b, cc, s1, s2, s3⟩ := ih (i + 1) (by omega) (a + ((i : Int) + 2) * (v - 48)) (by omega) (by omega)
    refine ⟨b, cc, Ev.step (fun k => spec_l2Seven.l0.eq_2 ..) ?_, Ev.step (fun k => impl_checkLetter.l0.eq_2 ..) ?_, fun h => Ev.step (fun k => spec_l2Check.l0.eq_2 ..) ?_⟩
    ·rw [hv, w1, hsz]
     exact Ev.pos (by omega) (Ev.neg (by omega) (Ev.pos (by omega) (Ev.pos (by omega) (Ev.pos (by omega) (Ev.neg (by omega) (Ev.neg (by omega) s1))))))
    ·rw [hv, hsz]
     refine Ev.pos (by omega) (Ev.pos (by omega) (Ev.pos (by omega) (Ev.neg (by omega) ?_)))
     refine Ev.step (fun k => impl_checkLetter.j1.eq_2 ..) (Ev.neg (by simp) (Ev.pos (by omega) (Ev.pos (by omega) (Ev.pos (by omega) ?_))))
     rw [w1, w2, m1, w7, w8]
     exact s2
    ·rw [hv, hsz]
     refine Ev.pos (by omega) (Ev.pos (by omega) (Ev.pos (by omega) (Ev.neg (by omega) ?_)))
     rw [w1, w2, w3, w6, Int.mul_comm (v - 48), w7, w8]
     exact s3 h
   ·refine ⟨false, 0, Ev.step (fun k => spec_l2Seven.l0.eq_2 ..) ?_, Ev.step (fun k => impl_checkLetter.l0.eq_2 ..) ?_, fun h => by cases h⟩
    ·rw [hv, hsz]
     refine Ev.pos (by omega) (Ev.neg (by omega) (Ev.pos (by omega) (Ev.pos (by omega) (Ev.pos (by omega) ?_))))
     exact Ev.ite (fun _ => Ev.now _) (fun q => Ev.pos (by omega) (Ev.now _))
    ·rw [hv, hsz]
     refine Ev.pos (by omega) (Ev.pos (by omega) (Ev.pos (by omega) (Ev.neg (by omega) ?_)))
     refine Ev.step (fun k => impl_checkLetter.j1.eq_2 ..) (Ev.neg (by simp) (Ev.pos (by omega) (Ev.ite (fun q => Ev.neg (by omega) (Ev.now _)) (fun _ => Ev.now _))))
theorem ids (s : ByteArray) : ∃ b : Bool, Ev (fun k => spec_l2Id.f k s) b ∧ Ev (fun k => impl_IsValidId.f k s) b ∧ (b = true → s.size = 8) := by
 unfold spec_l2Id.f impl_IsValidId.f
 by_cases c : (s.size : Int) = 8
 ·have hx : (s.extract 0 7).size = 7 := by
   rw [ByteArray.size_extract]
   omega
  obtain ⟨b, l, h1, h2, h3⟩ := letters (s.extract 0 7) hx 7 0 (by omega) 0 (by omega) (by omega)
  have g1 : Ev (fun k => spec_l2Seven.f k (s.extract 0 7)) b := by
   unfold spec_l2Seven.f
   exact Ev.pos (by omega) h1
  have g2 : Ev (fun k => impl_checkLetter.f k (s.extract 0 7)) (if b = true then (l, true) else (0, false)) := by
   unfold impl_checkLetter.f
   rw [show ((s.extract 0 7).size : Int) = 7 by omega]
   exact Ev.pos rfl h2
  cases b with
  | false => exact ⟨false, Ev.pos c (Ev.pos (by omega) (Ev.pos (by omega) (Ev.bind g1 (Ev.neg (by simp) (Ev.now _))))), Ev.pos c (Ev.pos (by omega) (Ev.pos (by omega) (Ev.bind g2 (Ev.neg (by simp) (Ev.now _))))), fun h => by cases h⟩
  | true =>
   refine ⟨bt s 7 == l, Ev.pos c (Ev.pos (by omega) (Ev.pos (by omega) (Ev.bind g1 (Ev.pos rfl (Ev.pos (by omega) (Ev.bind (a := l) ?_ (Ev.now _))))))), Ev.pos c (Ev.pos (by omega) (Ev.pos (by omega) (Ev.bind g2 (Ev.pos rfl (Ev.pos (by omega) (Ev.now _)))))), fun _ => by omega⟩
   unfold spec_l2Check.f
   exact h3 rfl
 ·exact ⟨false, Ev.neg c (Ev.now _), Ev.neg c (Ev.now _), fun h => by cases h⟩
noncomputable def isId (s : ByteArray) : Bool := Classical.choose (ids s)
theorem isId_spec (s : ByteArray) : Ev (fun k => spec_l2Id.f k s) (isId s) := (Classical.choose_spec (ids s)).1
theorem isId_impl (s : ByteArray) : Ev (fun k => impl_IsValidId.f k s) (isId s) := (Classical.choose_spec (ids s)).2.1
theorem isId_size (s : ByteArray) (h : isId s = true) : s.size = 8 := (Classical.choose_spec (ids s)).2.2 h
def contOk (x : S64) : Prop := isId x.f0 = true ∧ (1 ≤ x.f1 ∧ x.f1 ≤ 2) ∧ (1 ≤ x.f2 ∧ x.f2 ≤ 32000) ∧ (1 ≤ x.f3 ∧ x.f3 ≤ 3) ∧ (1 ≤ x.f4 ∧ x.f4 ≤ 9)
theorem container (x : S64) : ∃ b : Bool, Ev (fun k => spec_l2Good.f k x.f0 x.f1 x.f2 x.f3 x.f4) b ∧ Ev (fun k => impl_IsValidContainer.f k x.f0 x.f1 x.f2 x.f3 x.f4) b ∧ (b = true ↔ contOk x) := by
 unfold spec_l2Good.f impl_IsValidContainer.f contOk
 have hs := isId_spec x.f0
 have hi := isId_impl x.f0
 by_cases c0 : isId x.f0 = true
 ·by_cases c1 : 1 ≤ x.f1 ∧ x.f1 ≤ 2
  ·by_cases c2 : 1 ≤ x.f2 ∧ x.f2 ≤ 32000
   ·by_cases c3 : 1 ≤ x.f3 ∧ x.f3 ≤ 3
    ·exact ⟨decide (1 ≤ x.f4 ∧ x.f4 ≤ 9), Ev.bind hs (Ev.pos c0 (Ev.const (l1In_eq _ _ _) (Ev.pos (decide_eq_true c1) (Ev.const (l1In_eq _ _ _) (Ev.pos (decide_eq_true c2) (Ev.const (l1In_eq _ _ _) (Ev.pos (decide_eq_true c3) (Ev.const (l1In_eq _ _ _) (Ev.now _))))))))),
      Ev.bind hi (Ev.pos c0 (Ev.const (within_eq _ _ _) (Ev.pos (decide_eq_true c1) (Ev.const (within_eq _ _ _) (Ev.pos (decide_eq_true c3) (Ev.const (within_eq _ _ _) (Ev.pos (decide_eq_true c2) (Ev.const (within_eq _ _ _) (Ev.now _))))))))), ⟨fun h => ⟨c0, c1, c2, c3, of_decide_eq_true h⟩, fun h => decide_eq_true h.2.2.2.2⟩⟩
    ·exact ⟨false, Ev.bind hs (Ev.pos c0 (Ev.const (l1In_eq _ _ _) (Ev.pos (decide_eq_true c1) (Ev.const (l1In_eq _ _ _) (Ev.pos (decide_eq_true c2) (Ev.const (l1In_eq _ _ _) (Ev.neg (fun h => c3 (of_decide_eq_true h)) (Ev.now _)))))))),
      Ev.bind hi (Ev.pos c0 (Ev.const (within_eq _ _ _) (Ev.pos (decide_eq_true c1) (Ev.const (within_eq _ _ _) (Ev.neg (fun h => c3 (of_decide_eq_true h)) (Ev.now _)))))), ⟨fun h => (by cases h), fun h => absurd h.2.2.2.1 c3⟩⟩
   ·exact ⟨false, Ev.bind hs (Ev.pos c0 (Ev.const (l1In_eq _ _ _) (Ev.pos (decide_eq_true c1) (Ev.const (l1In_eq _ _ _) (Ev.neg (fun h => c2 (of_decide_eq_true h)) (Ev.now _)))))),
     Ev.bind hi (Ev.pos c0 (Ev.const (within_eq _ _ _) (Ev.pos (decide_eq_true c1) (Ev.const (within_eq _ _ _) (Ev.ite (fun _ => Ev.const (within_eq _ _ _) (Ev.neg (fun h => c2 (of_decide_eq_true h)) (Ev.now _))) (fun _ => Ev.now _)))))), ⟨fun h => (by cases h), fun h => absurd h.2.2.1 c2⟩⟩
  ·exact ⟨false, Ev.bind hs (Ev.pos c0 (Ev.const (l1In_eq _ _ _) (Ev.neg (fun h => c1 (of_decide_eq_true h)) (Ev.now _)))), Ev.bind hi (Ev.pos c0 (Ev.const (within_eq _ _ _) (Ev.neg (fun h => c1 (of_decide_eq_true h)) (Ev.now _)))), ⟨fun h => (by cases h), fun h => absurd h.2.1 c1⟩⟩
 ·exact ⟨false, Ev.bind hs (Ev.neg c0 (Ev.now _)), Ev.bind hi (Ev.neg c0 (Ev.now _)), ⟨fun h => (by cases h), fun h => absurd h.1 c0⟩⟩
theorem find_spec (xs : List S64) (hl : xs.length ≤ 1048577) (s : ByteArray) : ∀ d i : Nat, i + d = xs.length → ∃ t : Int, Ev (fun k => spec_l2Find.l0 k xs s i) t ∧
  ((t = -1 ∧ ∀ j : Nat, i ≤ j → j < xs.length → (rd_T64 xs j).f0 ≠ s) ∨ ∃ m : Nat, t = m ∧ i ≤ m ∧ m < xs.length ∧ (rd_T64 xs m).f0 = s ∧ ∀ j : Nat, i ≤ j → j < m → (rd_T64 xs j).f0 ≠ s) := by
 intro d
 induction d with
 | zero =>
  intro i hi
  exact ⟨-1, Ev.step (fun k => spec_l2Find.l0.eq_2 ..) (Ev.neg (by omega) (Ev.now _)), .inl ⟨rfl, fun j h1 h2 => absurd h2 (by omega)⟩⟩
 | succ d ih =>
  intro i hi
  have li : (i : Int) < xs.length := by omega
  have i0 : (0 : Int) ≤ i := by omega
  by_cases c : (rd_T64 xs i).f0 = s
  ·exact ⟨i, Ev.step (fun k => spec_l2Find.l0.eq_2 ..) (Ev.pos li (Ev.pos i0 (Ev.pos (str_eq.2 c) (Ev.now _)))), .inr ⟨i, rfl, Nat.le_refl _, by omega, c, fun j h1 h2 => absurd h2 (by omega)⟩⟩
  ·obtain ⟨t, h1, h2⟩ := ih (i + 1) (by omega)
   have ex : ∀ j : Nat, i ≤ j → (i + 1 ≤ j → (rd_T64 xs j).f0 ≠ s) → (rd_T64 xs j).f0 ≠ s := by
    intro j j1 h
    rcases Nat.lt_or_ge i j with q | q
    ·exact h q
    ·obtain rfl : j = i := by omega
     exact c
   have w1 : wrap64 ((i : Int) + 1) = ((i + 1 : Nat) : Int) := by rw [w64 (by omega) (by omega)]; rfl
   rw [← w1] at h1
   refine ⟨t, Ev.step (fun k => spec_l2Find.l0.eq_2 ..) (Ev.pos li (Ev.pos i0 (Ev.neg (fun h => c (str_eq.1 h)) h1))), ?_⟩
   rcases h2 with ⟨rfl, h2⟩ | ⟨m, rfl, m1, m2, m3, m4⟩
   ·exact .inl ⟨rfl, fun j j1 j2 => ex j j1 (fun q => h2 j q j2)⟩
   ·exact .inr ⟨m, rfl, by omega, m2, m3, fun j j1 j2 => ex j j1 (fun q => m4 j q j2)⟩
theorem find_impl (xs : List S64) (hl : xs.length ≤ 1048577) (s : ByteArray) : ∀ d i : Nat, i + d = xs.length → ∃ t : Int, Ev (fun k => slices_IndexFunc_impl_Container.l0 k xs xs.length i s) t ∧
  ((t = -1 ∧ ∀ j : Nat, i ≤ j → j < xs.length → (rd_T64 xs j).f0 ≠ s) ∨ ∃ m : Nat, t = m ∧ i ≤ m ∧ m < xs.length ∧ (rd_T64 xs m).f0 = s ∧ ∀ j : Nat, i ≤ j → j < m → (rd_T64 xs j).f0 ≠ s) := by
 intro d
 induction d with
 | zero =>
  intro i hi
  exact ⟨-1, Ev.step (fun k => slices_IndexFunc_impl_Container.l0.eq_2 ..) (Ev.neg (by omega) (Ev.now _)), .inl ⟨rfl, fun j h1 h2 => absurd h2 (by omega)⟩⟩
 | succ d ih =>
  intro i hi
  have li : (i : Int) < xs.length := by omega
  have i0 : (0 : Int) ≤ i := by omega
  by_cases c : (rd_T64 xs i).f0 = s
  ·refine ⟨i, Ev.step (fun k => slices_IndexFunc_impl_Container.l0.eq_2 ..) (Ev.pos li (Ev.pos i0 (Ev.pos li (Ev.const (a := true) ?_ (Ev.pos rfl (Ev.now _)))))), .inr ⟨i, rfl, Nat.le_refl _, by omega, c, fun j h1 h2 => absurd h2 (by omega)⟩⟩
   unfold impl_indexOf_1.f
   rw [c]
   simp
  ·obtain ⟨t, h1, h2⟩ := ih (i + 1) (by omega)
   have ex : ∀ j : Nat, i ≤ j → (i + 1 ≤ j → (rd_T64 xs j).f0 ≠ s) → (rd_T64 xs j).f0 ≠ s := by
    intro j j1 h
    rcases Nat.lt_or_ge i j with q | q
    ·exact h q
    ·obtain rfl : j = i := by omega
     exact c
   have w1 : wrap64 ((i : Int) + 1) = ((i + 1 : Nat) : Int) := by rw [w64 (by omega) (by omega)]; rfl
   rw [← w1] at h1
   refine ⟨t, Ev.step (fun k => slices_IndexFunc_impl_Container.l0.eq_2 ..) (Ev.pos li (Ev.pos i0 (Ev.pos li (Ev.const (a := false) ?_ (Ev.neg (fun h => by cases h) h1))))), ?_⟩
   ·unfold impl_indexOf_1.f
    exact congrArg some (beq_eq_false_iff_ne.2 (fun h => c (str_eq.1 h)))
   rcases h2 with ⟨rfl, h2⟩ | ⟨m, rfl, m1, m2, m3, m4⟩
   ·exact .inl ⟨rfl, fun j j1 j2 => ex j j1 (fun q => h2 j q j2)⟩
   ·exact .inr ⟨m, rfl, by omega, m2, m3, fun j j1 j2 => ex j j1 (fun q => m4 j q j2)⟩
def vC (xs : List S64) (i : Nat) : Prop := contOk (rd_T64 xs i) ∧ ∀ j : Nat, j < i → (rd_T64 xs j).f0 ≠ (rd_T64 xs i).f0
def Conts (xs : List S64) : Prop := (xs.length : Int) ≤ 12 ∧ ∀ i : Nat, i < xs.length → vC xs i
theorem rd_take (xs : List S64) (n j : Nat) (h : j < n) : rd_T64 (xs.take n) (j : Int) = rd_T64 xs j := by
 unfold rd_T64
 rw [Int.toNat_natCast, List.getD_eq_getElem?_getD, List.getD_eq_getElem?_getD, List.getElem?_take_of_lt h]
theorem contsSpec (xs : List S64) (hl : xs.length ≤ 1048577) : ∀ d i : Nat, i + d = xs.length → (∀ j : Nat, j < i → vC xs j) → ∃ b : Bool, Ev (fun k => spec_l2List.l0 k xs i) b ∧ (b = true ↔ Conts xs) := by
 intro d
 induction d with
 | zero =>
  intro i hi hv
  refine ⟨decide ((xs.length : Int) ≤ 12), Ev.step (fun k => spec_l2List.l0.eq_2 ..) (Ev.neg (by omega) (Ev.step (fun k => spec_l2List.j1.eq_2 ..) (Ev.neg (by simp) (Ev.now _)))), ?_⟩
  exact ⟨fun h => ⟨of_decide_eq_true h, fun j hj => hv j (by omega)⟩, fun h => decide_eq_true h.1⟩
 | succ d ih =>
  intro i hi hv
  have li : (i : Int) < xs.length := by omega
  have i0 : (0 : Int) ≤ i := by omega
  by_cases c12 : (i : Int) ≤ 12
  ·obtain ⟨b, g1, _, g3⟩ := container (rd_T64 xs i)
   obtain ⟨t, t1, t2⟩ := find_spec xs hl (rd_T64 xs i).f0 xs.length 0 (by omega)
   have pre : ∀ r, Ev _ r → Ev (fun k => spec_l2List.l0 k xs i) r := fun r hr => Ev.step (fun k => spec_l2List.l0.eq_2 ..) (Ev.pos li (Ev.step (fun k => spec_l2List.j1.eq_2 ..) (Ev.pos (decide_eq_true c12) (Ev.pos i0 (Ev.pos li (Ev.bind g1 hr))))))
   by_cases cb : b = true
   ·by_cases ct : t = i
    ·have vi : vC xs i := by
      refine ⟨g3.1 cb, fun j hj => ?_⟩
      rcases t2 with ⟨e, _⟩ | ⟨m, e, _, _, _, m4⟩
      ·omega
      ·exact m4 j (by omega) (by omega)
     obtain ⟨r, r1, r2⟩ := ih (i + 1) (by omega) (fun j hj => by
      rcases Nat.lt_or_ge j i with q | q
      ·exact hv j q
      ·obtain rfl : j = i := by omega
       exact vi)
     have w1 : wrap64 ((i : Int) + 1) = ((i + 1 : Nat) : Int) := by rw [w64 (by omega) (by omega)]; rfl
     rw [← w1] at r1
     exact ⟨r, pre r (Ev.pos cb (Ev.bind t1 (Ev.pos ct r1))), r2⟩
    ·refine ⟨false, pre _ (Ev.pos cb (Ev.bind t1 (Ev.neg ct (Ev.now _)))), ⟨fun h => (by cases h), fun h => ?_⟩⟩
     exfalso
     have vi := h.2 i (by omega)
     rcases t2 with ⟨_, m4⟩ | ⟨m, rfl, _, _, m3, m4⟩
     ·exact m4 i (by omega) (by omega) rfl
     ·rcases Nat.lt_or_ge m i with q | q
      ·exact vi.2 m q m3
      ·rcases Nat.lt_or_ge i m with q' | q'
       ·exact m4 i (by omega) q' rfl
       ·exact ct (by omega)
   ·exact ⟨false, pre _ (Ev.neg cb (Ev.now _)), ⟨fun h => (by cases h), fun h => absurd (g3.2 (h.2 i (by omega)).1) cb⟩⟩
  ·refine ⟨false, Ev.step (fun k => spec_l2List.l0.eq_2 ..) (Ev.pos li (Ev.step (fun k => spec_l2List.j1.eq_2 ..) (Ev.neg (fun h => c12 (of_decide_eq_true h)) (Ev.eq (Ev.now _) ?_)))), ⟨fun h => (by cases h), fun h => absurd h.1 (by omega)⟩⟩
   exact decide_eq_false (by omega)
theorem contsImpl (xs : List S64) (hl : xs.length ≤ 1048577) : ∀ d i : Nat, i + d = xs.length → (∀ j : Nat, j < i → vC xs j) → ∃ b : Bool, Ev (fun k => impl_IsValidContainers.l0 k xs xs xs.length i) b ∧ (b = true ↔ Conts xs) := by
 intro d
 induction d with
 | zero =>
  intro i hi hv
  refine ⟨decide ((xs.length : Int) ≤ 12), Ev.step (fun k => impl_IsValidContainers.l0.eq_2 ..) (Ev.neg (by omega) (Ev.now _)), ?_⟩
  exact ⟨fun h => ⟨of_decide_eq_true h, fun j hj => hv j (by omega)⟩, fun h => decide_eq_true h.1⟩
 | succ d ih =>
  intro i hi hv
  have li : (i : Int) < xs.length := by omega
  have i0 : (0 : Int) ≤ i := by omega
  obtain ⟨b, _, g1, g3⟩ := container (rd_T64 xs i)
  have ln : (xs.take i).length = i := by rw [List.length_take]; omega
  obtain ⟨t, t1, t2⟩ := find_impl (xs.take i) (by omega) (rd_T64 xs i).f0 i 0 (by omega)
  have F : Ev (fun k => impl_indexOf.f k (xs.take ((i : Int)).toNat) (rd_T64 xs i).f0) t := by
   unfold impl_indexOf.f slices_IndexFunc_impl_Container.f
   rw [Int.toNat_natCast]
   exact Ev.bind t1 (Ev.now _)
  have pre : ∀ r, Ev _ r → Ev (fun k => impl_IsValidContainers.l0 k xs xs xs.length i) r := fun r hr => Ev.step (fun k => impl_IsValidContainers.l0.eq_2 ..) (Ev.pos li (Ev.pos i0 (Ev.pos li (Ev.bind g1 hr))))
  by_cases cb : b = true
  ·by_cases ct : t ≥ 0
   ·refine ⟨false, pre _ (Ev.pos cb (Ev.pos (by omega) (Ev.bind F (Ev.pos ct (Ev.now _))))), ⟨fun h => (by cases h), fun h => ?_⟩⟩
    exfalso
    rcases t2 with ⟨e, _⟩ | ⟨m, _, _, m2, m3, _⟩
    ·omega
    ·rw [rd_take xs i m (by omega)] at m3
     exact (h.2 i (by omega)).2 m (by omega) m3
   ·have vi : vC xs i := by
     refine ⟨g3.1 cb, fun j hj => ?_⟩
     rcases t2 with ⟨_, m4⟩ | ⟨m, e, _⟩
     ·have := m4 j (by omega) (by omega)
      rwa [rd_take xs i j hj] at this
     ·omega
    obtain ⟨r, r1, r2⟩ := ih (i + 1) (by omega) (fun j hj => by
     rcases Nat.lt_or_ge j i with q | q
     ·exact hv j q
     ·obtain rfl : j = i := by omega
      exact vi)
    have w1 : wrap64 ((i : Int) + 1) = ((i + 1 : Nat) : Int) := by rw [w64 (by omega) (by omega)]; rfl
    rw [← w1] at r1
    exact ⟨r, pre r (Ev.pos cb (Ev.pos (by omega) (Ev.bind F (Ev.neg ct r1)))), r2⟩
  ·exact ⟨false, pre _ (Ev.neg cb (Ev.now _)), ⟨fun h => (by cases h), fun h => absurd (g3.2 (h.2 i (by omega)).1) cb⟩⟩
theorem conts (xs : List S64) (hl : xs.length ≤ 1048577) : ∃ b : Bool, Ev (fun k => spec_l2List.f k xs) b ∧ Ev (fun k => impl_IsValidContainers.f k xs) b ∧ (b = true ↔ Conts xs) := by
 obtain ⟨b, h1, h2⟩ := contsSpec xs hl xs.length 0 (by omega) (fun j hj => by omega)
 obtain ⟨b', h1', h2'⟩ := contsImpl xs hl xs.length 0 (by omega) (fun j hj => by omega)
 have e : b' = b := by
  cases b <;> cases b' <;> simp_all
 subst e
 exact ⟨_, h1, h1', h2⟩
def sL (xs : List S64) (lo : List Int) (w : Int) : Nat → Int
 | 0 => 0
 | n + 1 => if rd lo n = w then sL xs lo w n + (rd_T64 xs n).f1 else sL xs lo w n
def sW (xs : List S64) (lo : List Int) (w : Int) : Nat → Int
 | 0 => 0
 | n + 1 => if rd lo n = w then sW xs lo w n + (rd_T64 xs n).f2 else sW xs lo w n
def Small (xs : List S64) : Prop := xs.length ≤ 12 ∧ ∀ i : Nat, i < xs.length → (0 ≤ (rd_T64 xs i).f1 ∧ (rd_T64 xs i).f1 ≤ 2) ∧ (0 ≤ (rd_T64 xs i).f2 ∧ (rd_T64 xs i).f2 ≤ 32000)
theorem small (xs : List S64) (h : Conts xs) : Small xs := ⟨by have := h.1; omega, fun i hi => by
 have := (h.2 i hi).1
 exact ⟨⟨by have := this.2.1.1; omega, this.2.1.2⟩, by have := this.2.2.1.1; omega, this.2.2.1.2⟩⟩
theorem sL_bd (xs : List S64) (hs : Small xs) (lo : List Int) (w : Int) (n : Nat) (hn : n ≤ xs.length) : 0 ≤ sL xs lo w n ∧ sL xs lo w n ≤ 2 * n := by
 induction n with
 | zero => exact ⟨Int.le_refl _, Int.le_refl _⟩
 | succ n ih =>
  have h1 := ih (by omega)
  have h2 := (hs.2 n (by omega)).1
  unfold sL
  generalize sL xs lo w n = a at *
  generalize (rd_T64 xs n).f1 = b at *
  split <;> omega
theorem sW_bd (xs : List S64) (hs : Small xs) (lo : List Int) (w : Int) (n : Nat) (hn : n ≤ xs.length) : 0 ≤ sW xs lo w n ∧ sW xs lo w n ≤ 32000 * n := by
 induction n with
 | zero => exact ⟨Int.le_refl _, Int.le_refl _⟩
 | succ n ih =>
  have h1 := ih (by omega)
  have h2 := (hs.2 n (by omega)).2
  unfold sW
  generalize sW xs lo w n = a at *
  generalize (rd_T64 xs n).f2 = b at *
  split <;> omega
theorem sums (xs : List S64) (hs : Small xs) (lo : List Int) (h : lo.length ≤ xs.length) (w : Int) : Ev (fun k => spec_l19Sums.f k xs lo w) (sL xs lo w lo.length, sW xs lo w lo.length) := by
 unfold spec_l19Sums.f
 have main : ∀ d i : Nat, i + d = lo.length → Ev (fun k => spec_l19Sums.l0 k xs lo w (sL xs lo w i) (sW xs lo w i) i) (sL xs lo w lo.length, sW xs lo w lo.length) := by
  intro d
  induction d with
  | zero =>
   intro i hi
   obtain rfl : i = lo.length := by omega
   exact Ev.step (fun k => spec_l19Sums.l0.eq_2 ..) (Ev.neg (by omega) (Ev.now _))
  | succ d ih =>
   intro i hi
   have li : (i : Int) < lo.length := by omega
   have lx : (i : Int) < xs.length := by omega
   have l12 : xs.length ≤ 12 := hs.1
   have i0 : (0 : Int) ≤ i := by omega
   have w1 : wrap64 ((i : Int) + 1) = ((i + 1 : Nat) : Int) := by rw [w64 (by omega) (by omega)]; rfl
   have h1 := sL_bd xs hs lo w i (by omega)
   have h2 := sW_bd xs hs lo w i (by omega)
   have h3 := hs.2 i (by omega)
   have := ih (i + 1) (by omega)
   refine Ev.step (fun k => spec_l19Sums.l0.eq_2 ..) (Ev.pos li (Ev.pos i0 ?_))
   rw [w1]
   rw [show sL xs lo w (i + 1) = if rd lo i = w then sL xs lo w i + (rd_T64 xs i).f1 else sL xs lo w i from rfl, show sW xs lo w (i + 1) = if rd lo i = w then sW xs lo w i + (rd_T64 xs i).f2 else sW xs lo w i from rfl] at this
   clear w1
   by_cases c : rd lo i = w
   ·rw [if_pos c, if_pos c] at this
    refine Ev.pos c (Ev.pos lx ?_)
    generalize sL xs lo w i = a at *
    generalize sW xs lo w i = b at *
    generalize (rd_T64 xs i).f1 = p at *
    generalize (rd_T64 xs i).f2 = q at *
    have e1 : wrap64 (a + p) = a + p := w64 (by omega) (by omega)
    have e2 : wrap64 (b + q) = b + q := w64 (by omega) (by omega)
    rw [e1, e2]
    exact this
   ·rw [if_neg c, if_neg c] at this
    exact Ev.neg c this
 exact main lo.length 0 (by omega)
def Fit (ts : List S70) (xs : List S64) (lo : List Int) : Prop := ∀ j : Nat, j < ts.length → sL xs lo j lo.length ≤ (rd_T70 ts j).f0 ∧ sW xs lo j lo.length ≤ (rd_T70 ts j).f1
theorem fits (ts : List S70) (ht : ts.length ≤ 1048577) (xs : List S64) (hs : Small xs) (lo : List Int) (h : lo.length ≤ xs.length) : ∃ b : Bool, Ev (fun k => spec_l19Fits.f k ts xs lo) b ∧ (b = true ↔ Fit ts xs lo) := by
 unfold spec_l19Fits.f
 have main : ∀ d i : Nat, i + d = ts.length → ∃ b : Bool, Ev (fun k => spec_l19Fits.l0 k ts xs lo i) b ∧ (b = true ↔ ∀ j : Nat, i ≤ j → j < ts.length → sL xs lo j lo.length ≤ (rd_T70 ts j).f0 ∧ sW xs lo j lo.length ≤ (rd_T70 ts j).f1) := by
  intro d
  induction d with
  | zero =>
   intro i hi
   exact ⟨true, Ev.step (fun k => spec_l19Fits.l0.eq_2 ..) (Ev.neg (by omega) (Ev.now _)), ⟨fun _ j h1 h2 => absurd h2 (by omega), fun _ => rfl⟩⟩
  | succ d ih =>
   intro i hi
   have li : (i : Int) < ts.length := by omega
   have i0 : (0 : Int) ≤ i := by omega
   have w1 : wrap64 ((i : Int) + 1) = ((i + 1 : Nat) : Int) := by rw [w64 (by omega) (by omega)]; rfl
   obtain ⟨b, h1, h2⟩ := ih (i + 1) (by omega)
   rw [← w1] at h1
   have pre : ∀ r, Ev _ r → Ev (fun k => spec_l19Fits.l0 k ts xs lo i) r := fun r hr => Ev.step (fun k => spec_l19Fits.l0.eq_2 ..) (Ev.pos li (Ev.bind (sums xs hs lo h i) (Ev.pos i0 hr)))
   by_cases c1 : sL xs lo i lo.length ≤ (rd_T70 ts i).f0
   ·by_cases c2 : sW xs lo i lo.length ≤ (rd_T70 ts i).f1
    ·refine ⟨b, pre _ (Ev.neg (Int.not_lt.2 c1) (Ev.neg (Int.not_lt.2 c2) h1)), h2.trans ⟨fun q j j1 j2 => ?_, fun q j j1 j2 => q j (by omega) j2⟩⟩
     rcases Nat.lt_or_ge i j with g | g
     ·exact q j g j2
     ·obtain rfl : j = i := by omega
      exact ⟨c1, c2⟩
    ·exact ⟨false, pre _ (Ev.neg (Int.not_lt.2 c1) (Ev.pos (Int.not_le.1 c2) (Ev.now _))), ⟨fun q => (by cases q), fun q => absurd (q i (Nat.le_refl _) (by omega)).2 c2⟩⟩
   ·exact ⟨false, pre _ (Ev.pos (Int.not_le.1 c1) (Ev.now _)), ⟨fun q => (by cases q), fun q => absurd (q i (Nat.le_refl _) (by omega)).1 c1⟩⟩
 obtain ⟨b, h1, h2⟩ := main ts.length 0 (by omega)
 exact ⟨b, h1, h2.trans ⟨fun q j hj => q j (by omega) hj, fun q j _ hj => q j hj⟩⟩
def On (n : Nat) (lo : List Int) : Prop := ∀ j : Nat, j < lo.length → -1 ≤ rd lo j ∧ rd lo j < (n : Int)
theorem rdset_self (ys : List Int) (w v : Int) (h0 : 0 ≤ w) (h : w < (ys.length : Int)) : rd (ys.set w.toNat v) w = v := by
 unfold rd
 rw [List.getD_eq_getElem?_getD, List.getElem?_set_self (by omega)]
 rfl
theorem rdset_ne (ys : List Int) (w j v : Int) (h0 : 0 ≤ w) (h1 : 0 ≤ j) (h : j ≠ w) : rd (ys.set w.toNat v) j = rd ys j := by
 unfold rd
 rw [List.getD_eq_getElem?_getD, List.getElem?_set_ne (by omega), ← List.getD_eq_getElem?_getD]
theorem rd_rep (n : Nat) (j : Int) : rd (List.replicate n 0) j = 0 := by
 unfold rd
 rw [List.getD_eq_getElem?_getD, List.getElem?_replicate]
 split <;> rfl
theorem usage (ts : List S70) (ht : ts.length ≤ 1048577) (xs : List S64) (hs : Small xs) (lo : List Int) (h : lo.length ≤ xs.length) (ho : On ts.length lo) : ∃ a b : List Int, a.length = ts.length ∧ b.length = ts.length ∧
  (∀ w : Nat, w < ts.length → rd a w = sL xs lo w lo.length ∧ rd b w = sW xs lo w lo.length) ∧ Ev (fun k => impl_usage.f k ts xs lo) (a, b) := by
 have main : ∀ d i : Nat, i + d = lo.length → ∀ p q : List Int, p.length = ts.length → q.length = ts.length → (∀ w : Nat, w < ts.length → rd p w = sL xs lo w i ∧ rd q w = sW xs lo w i) →
   ∃ a b : List Int, a.length = ts.length ∧ b.length = ts.length ∧ (∀ w : Nat, w < ts.length → rd a w = sL xs lo w lo.length ∧ rd b w = sW xs lo w lo.length) ∧ Ev (fun k => impl_usage.l0 k xs p q lo lo.length i) (a, b) := by
  intro d
  induction d with
  | zero =>
   intro i hi p q hp hq hr
   obtain rfl : i = lo.length := by omega
   exact ⟨p, q, hp, hq, hr, Ev.step (fun k => impl_usage.l0.eq_2 ..) (Ev.neg (by omega) (Ev.now _))⟩
  | succ d ih =>
   intro i hi p q hp hq hr
   have li : (i : Int) < lo.length := by omega
   have lx : (i : Int) < xs.length := by omega
   have l12 : xs.length ≤ 12 := hs.1
   have i0 : (0 : Int) ≤ i := by omega
   have w1 : wrap64 ((i : Int) + 1) = ((i + 1 : Nat) : Int) := by rw [w64 (by omega) (by omega)]; rfl
   have hoi := ho i (by omega)
   have pre : ∀ r, Ev _ r → Ev (fun k => impl_usage.l0 k xs p q lo lo.length i) r := fun r hr => Ev.step (fun k => impl_usage.l0.eq_2 ..) (Ev.pos li (Ev.pos i0 (Ev.pos li hr)))
   by_cases c : rd lo i ≥ 0
   ·have lp : rd lo i < (p.length : Int) := by rw [hp]; exact hoi.2
    have lq : rd lo i < (q.length : Int) := by rw [hq]; exact hoi.2
    have e : ((rd lo i).toNat : Int) = rd lo i := Int.toNat_of_nonneg c
    have r1 := hr (rd lo i).toNat (by omega)
    rw [e] at r1
    have b1 := sL_bd xs hs lo (rd lo i) i (by omega)
    have b2 := sW_bd xs hs lo (rd lo i) i (by omega)
    have h3 := hs.2 i (by omega)
    have e1 : wrap64 (rd p (rd lo i) + (rd_T64 xs i).f1) = sL xs lo (rd lo i) i + (rd_T64 xs i).f1 := by
     rw [r1.1]
     generalize sL xs lo (rd lo i) i = a at *
     generalize (rd_T64 xs i).f1 = b at *
     exact w64 (by omega) (by omega)
    have e2 : wrap64 (rd q (rd lo i) + (rd_T64 xs i).f2) = sW xs lo (rd lo i) i + (rd_T64 xs i).f2 := by
     rw [r1.2]
     generalize sW xs lo (rd lo i) i = a at *
     generalize (rd_T64 xs i).f2 = b at *
     exact w64 (by omega) (by omega)
    obtain ⟨a, b, a1, a2, a3, a4⟩ := ih (i + 1) (by omega) (p.set (rd lo i).toNat (sL xs lo (rd lo i) i + (rd_T64 xs i).f1)) (q.set (rd lo i).toNat (sW xs lo (rd lo i) i + (rd_T64 xs i).f2)) (by simpa using hp) (by simpa using hq) (fun w hw => by
     have := hr w hw
     rw [show sL xs lo w (i + 1) = if rd lo i = w then sL xs lo w i + (rd_T64 xs i).f1 else sL xs lo w i from rfl, show sW xs lo w (i + 1) = if rd lo i = w then sW xs lo w i + (rd_T64 xs i).f2 else sW xs lo w i from rfl]
     by_cases g : rd lo i = w
     ·rw [if_pos g, if_pos g, ← g]
      exact ⟨rdset_self _ _ _ c lp, rdset_self _ _ _ c lq⟩
     ·rw [if_neg g, if_neg g, rdset_ne _ _ _ _ c (by omega) (fun h => g h.symm), rdset_ne _ _ _ _ c (by omega) (fun h => g h.symm)]
      exact this)
    rw [← w1, ← e1, ← e2] at a4
    exact ⟨a, b, a1, a2, a3, pre _ (Ev.pos c (Ev.pos c (Ev.pos lp (Ev.pos lx (Ev.pos lq a4)))))⟩
   ·obtain ⟨a, b, a1, a2, a3, a4⟩ := ih (i + 1) (by omega) p q hp hq (fun w hw => by
     have := hr w hw
     rw [show sL xs lo w (i + 1) = if rd lo i = w then sL xs lo w i + (rd_T64 xs i).f1 else sL xs lo w i from rfl, show sW xs lo w (i + 1) = if rd lo i = w then sW xs lo w i + (rd_T64 xs i).f2 else sW xs lo w i from rfl]
     have g : ¬ rd lo i = w := by omega
     rw [if_neg g, if_neg g]
     exact this)
    rw [← w1] at a4
    exact ⟨a, b, a1, a2, a3, pre _ (Ev.neg c a4)⟩
 obtain ⟨a, b, a1, a2, a3, a4⟩ := main lo.length 0 (by omega) (List.replicate ts.length 0) (List.replicate ts.length 0) (by simp) (by simp) (fun w _ => ⟨rd_rep _ _, rd_rep _ _⟩)
 refine ⟨a, b, a1, a2, a3, ?_⟩
 unfold impl_usage.f
 refine Ev.pos (by omega) (Ev.pos (by omega) ?_)
 rw [Int.toNat_natCast]
 exact a4
theorem isLoaded (ts : List S70) (ht : ts.length ≤ 1048577) (xs : List S64) (hs : Small xs) (lo : List Int) (h : lo.length ≤ xs.length) (ho : On ts.length lo) : ∃ b : Bool, Ev (fun k => impl_isLoaded.f k ts xs lo) b ∧ (b = true ↔ Fit ts xs lo) := by
 obtain ⟨p, q, hp, hq, hr, hu⟩ := usage ts ht xs hs lo h ho
 have main : ∀ d i : Nat, i + d = ts.length → ∃ b : Bool, Ev (fun k => impl_isLoaded.l0 k p q ts ts.length i) b ∧ (b = true ↔ ∀ j : Nat, i ≤ j → j < ts.length → sL xs lo j lo.length ≤ (rd_T70 ts j).f0 ∧ sW xs lo j lo.length ≤ (rd_T70 ts j).f1) := by
  intro d
  induction d with
  | zero =>
   intro i hi
   exact ⟨true, Ev.step (fun k => impl_isLoaded.l0.eq_2 ..) (Ev.neg (by omega) (Ev.now _)), ⟨fun _ j h1 h2 => absurd h2 (by omega), fun _ => rfl⟩⟩
  | succ d ih =>
   intro i hi
   have li : (i : Int) < ts.length := by omega
   have lp : (i : Int) < p.length := by omega
   have lq : (i : Int) < q.length := by omega
   have i0 : (0 : Int) ≤ i := by omega
   have w1 : wrap64 ((i : Int) + 1) = ((i + 1 : Nat) : Int) := by rw [w64 (by omega) (by omega)]; rfl
   obtain ⟨b, h1, h2⟩ := ih (i + 1) (by omega)
   rw [← w1] at h1
   have e := hr i (by omega)
   have pre : ∀ r, Ev _ r → Ev (fun k => impl_isLoaded.l0 k p q ts ts.length i) r := fun r hr => Ev.step (fun k => impl_isLoaded.l0.eq_2 ..) (Ev.pos li (Ev.pos i0 (Ev.pos li (Ev.pos lp hr))))
   rw [e.1] at pre
   rw [e.2] at pre
   by_cases c1 : sL xs lo i lo.length ≤ (rd_T70 ts i).f0
   ·by_cases c2 : sW xs lo i lo.length ≤ (rd_T70 ts i).f1
    ·refine ⟨b, pre _ (Ev.neg (Int.not_lt.2 c1) (Ev.pos lq (Ev.neg (Int.not_lt.2 c2) h1))), h2.trans ⟨fun q j j1 j2 => ?_, fun q j j1 j2 => q j (by omega) j2⟩⟩
     rcases Nat.lt_or_ge i j with g | g
     ·exact q j g j2
     ·obtain rfl : j = i := by omega
      exact ⟨c1, c2⟩
    ·exact ⟨false, pre _ (Ev.neg (Int.not_lt.2 c1) (Ev.pos lq (Ev.pos (Int.not_le.1 c2) (Ev.now _)))), ⟨fun q => (by cases q), fun q => absurd (q i (Nat.le_refl _) (by omega)).2 c2⟩⟩
   ·exact ⟨false, pre _ (Ev.pos (Int.not_le.1 c1) (Ev.now _)), ⟨fun q => (by cases q), fun q => absurd (q i (Nat.le_refl _) (by omega)).1 c1⟩⟩
 obtain ⟨b, h1, h2⟩ := main ts.length 0 (by omega)
 exact ⟨b, by unfold impl_isLoaded.f; exact Ev.bind hu h1, h2.trans ⟨fun q j hj => q j (by omega) hj, fun q j _ hj => q j hj⟩⟩
def Load (ts : List S70) (xs : List S64) (lo : List Int) : Prop := Train ts ∧ Conts xs ∧ lo.length = xs.length ∧ On ts.length lo ∧ Fit ts xs lo
theorem goodLoop (ts : List S70) (ht : ts.length ≤ 1048577) (xs : List S64) (hs : Small xs) (lo : List Int) (h : lo.length ≤ xs.length) : ∀ d i : Nat, i + d = lo.length → ∃ b : Bool, Ev (fun k => spec_l19Good.l0 k ts xs lo i) b ∧ (b = true ↔ (∀ j : Nat, i ≤ j → j < lo.length → -1 ≤ rd lo j ∧ rd lo j < (ts.length : Int)) ∧ Fit ts xs lo) := by
 intro d
 induction d with
 | zero =>
  intro i hi
  obtain ⟨b, b1, b2⟩ := fits ts ht xs hs lo h
  exact ⟨b, Ev.step (fun k => spec_l19Good.l0.eq_2 ..) (Ev.neg (by omega) (Ev.bind b1 (Ev.now _))), b2.trans ⟨fun q => ⟨fun j h1 h2 => absurd h2 (by omega), q⟩, fun q => q.2⟩⟩
 | succ d ih =>
  intro i hi
  have li : (i : Int) < lo.length := by omega
  have l12 : xs.length ≤ 12 := hs.1
  have i0 : (0 : Int) ≤ i := by omega
  have wt : wrap64 ((ts.length : Int) - 1) = (ts.length : Int) - 1 := w64 (by omega) (by omega)
  have w1 : wrap64 ((i : Int) + 1) = ((i + 1 : Nat) : Int) := by rw [w64 (by omega) (by omega)]; rfl
  obtain ⟨b, h1, h2⟩ := ih (i + 1) (by omega)
  rw [← w1] at h1
  have pre : ∀ r, Ev _ r → Ev (fun k => spec_l19Good.l0 k ts xs lo i) r := fun r hr => Ev.step (fun k => spec_l19Good.l0.eq_2 ..) (Ev.pos li (Ev.pos i0 (Ev.const (l1In_eq _ _ _) hr)))
  rw [wt] at pre
  by_cases c : -1 ≤ rd lo i ∧ rd lo i ≤ (ts.length : Int) - 1
  ·refine ⟨b, pre _ (Ev.pos (decide_eq_true c) h1), h2.trans ⟨fun q => ⟨fun j j1 j2 => ?_, q.2⟩, fun q => ⟨fun j j1 j2 => q.1 j (by omega) j2, q.2⟩⟩⟩
   rcases Nat.lt_or_ge i j with g | g
   ·exact q.1 j g j2
   ·obtain rfl : j = i := by omega
    exact ⟨c.1, by omega⟩
  ·refine ⟨false, pre _ (Ev.neg (fun q => c (of_decide_eq_true q)) (Ev.now _)), ⟨fun q => (by cases q), fun q => absurd (q.1 i (Nat.le_refl _) (by omega)) (fun z => c ⟨z.1, by omega⟩)⟩⟩
theorem off (ts : List S70) (ht : ts.length ≤ 1048577) (lo : List Int) (hl : lo.length ≤ 1048577) : ∀ d i : Nat, i + d = lo.length → ∃ t : Int, Ev (fun k => slices_IndexFunc_int.l0 k lo lo.length i ts) t ∧ (t ≥ 0 ↔ ¬ ∀ j : Nat, i ≤ j → j < lo.length → -1 ≤ rd lo j ∧ rd lo j < (ts.length : Int)) := by
 intro d
 induction d with
 | zero =>
  intro i hi
  exact ⟨-1, Ev.step (fun k => slices_IndexFunc_int.l0.eq_2 ..) (Ev.neg (by omega) (Ev.now _)), ⟨fun h => absurd h (by omega), fun h => absurd (fun j h1 h2 => absurd h2 (by omega)) h⟩⟩
 | succ d ih =>
  intro i hi
  have li : (i : Int) < lo.length := by omega
  have i0 : (0 : Int) ≤ i := by omega
  have wt : wrap64 ((ts.length : Int) - 1) = (ts.length : Int) - 1 := w64 (by omega) (by omega)
  have w1 : wrap64 ((i : Int) + 1) = ((i + 1 : Nat) : Int) := by rw [w64 (by omega) (by omega)]; rfl
  obtain ⟨t, h1, h2⟩ := ih (i + 1) (by omega)
  rw [← w1] at h1
  have no : impl_IsValidLoading_1.f (rd lo i) ts = some (!decide (-1 ≤ rd lo i ∧ rd lo i ≤ (ts.length : Int) - 1)) := by
   unfold impl_IsValidLoading_1.f
   rw [wt, within_eq]
   rfl
  have pre : ∀ r, Ev _ r → Ev (fun k => slices_IndexFunc_int.l0 k lo lo.length i ts) r := fun r hr => Ev.step (fun k => slices_IndexFunc_int.l0.eq_2 ..) (Ev.pos li (Ev.pos i0 (Ev.pos li (Ev.const no hr))))
  by_cases c : -1 ≤ rd lo i ∧ rd lo i ≤ (ts.length : Int) - 1
  ·refine ⟨t, pre _ (Ev.neg ?_ h1), h2.trans ⟨fun q z => q (fun j j1 j2 => z j (by omega) j2), fun q z => q (fun j j1 j2 => ?_)⟩⟩
   ·rw [decide_eq_true c]
    exact fun h => by cases h
   ·rcases Nat.lt_or_ge i j with g | g
    ·exact z j g j2
    ·obtain rfl : j = i := by omega
     exact ⟨c.1, by omega⟩
  ·refine ⟨i, pre _ (Ev.pos ?_ (Ev.now _)), ⟨fun _ z => c ?_, fun _ => by omega⟩⟩
   ·rw [decide_eq_false c]
    rfl
   ·have := z i (Nat.le_refl _) (by omega)
    exact ⟨this.1, by omega⟩
theorem good (ts : List S70) (ht : ts.length ≤ 1048577) (xs : List S64) (hx : xs.length ≤ 1048577) (lo : List Int) (hl : lo.length ≤ 1048577) : ∃ b : Bool, Ev (fun k => spec_l19Good.f k ts xs lo) b ∧ Ev (fun k => impl_IsValidLoading.f k ts xs lo) b ∧ (b = true ↔ Load ts xs lo) := by
 unfold spec_l19Good.f impl_IsValidLoading.f
 obtain ⟨p, p1, p2, p3⟩ := train ts ht
 obtain ⟨q, q1, q2, q3⟩ := conts xs hx
 have sj : ∀ z : Bool, z = true → Ev (fun k => spec_l19Good.j0 k ts xs lo z) false := fun z hz => Ev.step (fun k => spec_l19Good.j0.eq_2 ..) (Ev.pos hz (Ev.now _))
 have ij : ∀ z : Bool, z = true → Ev (fun k => impl_IsValidLoading.j0 k xs lo z ts) false := fun z hz => Ev.step (fun k => impl_IsValidLoading.j0.eq_2 ..) (Ev.pos hz (Ev.now _))
 by_cases cp : p = true
 ·by_cases cq : q = true
  ·by_cases cl : (lo.length : Int) = (xs.length : Int)
   ·have hs := small xs (q3.1 cq)
    have hle : lo.length ≤ xs.length := by omega
    have ne : ((lo.length : Int) != (xs.length : Int)) = false := by rw [cl]; simp
    obtain ⟨b, b1, b2⟩ := goodLoop ts ht xs hs lo hle lo.length 0 (by omega)
    obtain ⟨t, t1, t2⟩ := off ts ht lo hl lo.length 0 (by omega)
    have S : Ev (fun k => spec_l19Good.j0 k ts xs lo ((lo.length : Int) != (xs.length : Int))) b := Ev.step (fun k => spec_l19Good.j0.eq_2 ..) (Ev.neg (by rw [ne]; exact fun h => by cases h) b1)
    have F : Ev (fun k => slices_ContainsFunc_int.f k lo ts) (decide (t ≥ 0)) := by
     unfold slices_ContainsFunc_int.f slices_IndexFunc_int.f
     exact Ev.bind t1 (Ev.now _)
    have I0 : ∀ r, Ev _ r → Ev (fun k => impl_IsValidLoading.j0 k xs lo ((lo.length : Int) != (xs.length : Int)) ts) r := fun r hr => Ev.step (fun k => impl_IsValidLoading.j0.eq_2 ..) (Ev.neg (by rw [ne]; exact fun h => by cases h) (Ev.bind F hr))
    by_cases co : On ts.length lo
    ·have ct : ¬ t ≥ 0 := fun h => t2.1 h (fun j _ hj => co j hj)
     obtain ⟨c, c1, c2⟩ := isLoaded ts ht xs hs lo hle co
     have e : b = c := by
      have : b = true ↔ c = true := b2.trans ⟨fun z => c2.2 z.2, fun z => ⟨fun j _ hj => co j hj, c2.1 z⟩⟩
      cases b <;> cases c <;> simp_all
     subst e
     exact ⟨b, Ev.bind p1 (Ev.pos cp (Ev.bind q1 (Ev.pos cq S))), Ev.bind p2 (Ev.pos cp (Ev.bind q2 (Ev.pos cq (I0 _ (Ev.neg (fun h => ct (of_decide_eq_true h)) (Ev.bind c1 (Ev.now _))))))), c2.trans ⟨fun z => ⟨p3.1 cp, q3.1 cq, by omega, co, z⟩, fun z => z.2.2.2.2⟩⟩
    ·have ct : t ≥ 0 := t2.2 (fun h => co (fun j hj => h j (by omega) hj))
     have e : b = false := by
      rcases b with _ | _
      ·rfl
      ·exact absurd (fun j hj => (b2.1 rfl).1 j (by omega) hj) co
     subst e
     exact ⟨false, Ev.bind p1 (Ev.pos cp (Ev.bind q1 (Ev.pos cq S))), Ev.bind p2 (Ev.pos cp (Ev.bind q2 (Ev.pos cq (I0 _ (Ev.pos (decide_eq_true ct) (Ev.now _)))))), ⟨fun h => (by cases h), fun z => absurd z.2.2.2.1 co⟩⟩
   ·have ne : ((lo.length : Int) != (xs.length : Int)) = true := by simp; omega
    exact ⟨false, Ev.bind p1 (Ev.pos cp (Ev.bind q1 (Ev.pos cq (sj _ ne)))), Ev.bind p2 (Ev.pos cp (Ev.bind q2 (Ev.pos cq (ij _ ne)))), ⟨fun h => (by cases h), fun z => absurd z.2.2.1 (by omega)⟩⟩
  ·exact ⟨false, Ev.bind p1 (Ev.pos cp (Ev.bind q1 (Ev.neg cq (sj _ rfl)))), Ev.bind p2 (Ev.pos cp (Ev.bind q2 (Ev.neg cq (ij _ rfl)))), ⟨fun h => (by cases h), fun z => absurd (q3.2 z.2.1) cq⟩⟩
 ·exact ⟨false, Ev.bind p1 (Ev.neg cp (sj _ rfl)), Ev.bind p2 (Ev.neg cp (ij _ rfl)), ⟨fun h => (by cases h), fun z => absurd (p3.2 z.1) cp⟩⟩
theorem has_eq (l : List Int) (hl : l.length ≤ 1000000000) (a : Int) : Ev (fun k => spec_l1Has.f k l a) (decide (a ∈ l)) := by
 unfold spec_l1Has.f
 have main : ∀ d i : Nat, i + d = l.length → Ev (fun k => spec_l1Has.l0 k l a i) (decide (a ∈ l.drop i)) := by
  intro d
  induction d with
  | zero =>
   intro i hi
   exact Ev.step (fun k => spec_l1Has.l0.eq_2 ..) (Ev.neg (by omega) (Ev.eq (Ev.now _) (by simp [List.drop_of_length_le (show l.length ≤ i by omega)])))
  | succ d ih =>
   intro i hi
   have w1 : wrap64 ((i : Int) + 1) = ((i + 1 : Nat) : Int) := by rw [w64 (by omega) (by omega)]; rfl
   have e : rd l (i : Int) = l[i]'(by omega) := by
    unfold rd
    rw [Int.toNat_natCast]
    exact getD_of (List.getElem?_eq_getElem (by omega))
   refine Ev.step (fun k => spec_l1Has.l0.eq_2 ..) (Ev.pos (by omega) (Ev.pos (by omega) ?_))
   rw [e, w1, List.drop_eq_getElem_cons (by omega)]
   by_cases c : l[i]'(by omega) = a
   ·exact Ev.pos c (Ev.eq (Ev.now _) (decide_eq_true (List.mem_cons.2 (Or.inl c.symm))).symm)
   ·refine Ev.neg c (Ev.eq (ih (i + 1) (by omega)) ?_)
    have : ¬ a = l[i]'(by omega) := fun h => c h.symm
    exact decide_eq_decide.2 ⟨fun h => List.mem_cons_of_mem _ h, fun h => (List.mem_cons.1 h).resolve_left this⟩
 exact main l.length 0 (by omega)
def upN (n : Nat) : List Int := (List.range n).map (fun j : Nat => (j : Int))
theorem upN_succ (n : Nat) : upN (n + 1) = upN n ++ [(n : Int)] := by
 unfold upN
 rw [List.range_succ, List.map_append]
 rfl
theorem upN_len (n : Nat) : (upN n).length = n := by unfold upN; simp
theorem upTo_eq (n : Nat) (hn : n ≤ 1048577) : Ev (fun k => impl_upTo.f k n) (upN n) := by
 unfold impl_upTo.f
 have main : ∀ d i : Nat, i + d = n → Ev (fun k => impl_upTo.l0 k (upN i) n i) (upN n) := by
  intro d
  induction d with
  | zero =>
   intro i hi
   obtain rfl : i = n := by omega
   exact Ev.step (fun k => impl_upTo.l0.eq_2 ..) (Ev.neg (by omega) (Ev.now _))
  | succ d ih =>
   intro i hi
   have hlen : (upN i).length < 17592186044416 := by rw [upN_len]; omega
   have li : (i : Int) < n := by omega
   have w1 : wrap64 ((i : Int) + 1) = ((i + 1 : Nat) : Int) := by rw [w64 (by omega) (by omega)]; rfl
   have := ih (i + 1) (by omega)
   rw [upN_succ, ← w1] at this
   exact Ev.step (fun k => impl_upTo.l0.eq_2 ..) (Ev.pos li (Ev.pos hlen this))
 exact main n 0 (by omega)
theorem emptyWagons (ts : List S70) (ht : ts.length ≤ 1048577) (xs : List S64) (hx : xs.length ≤ 1048577) (lo : List Int) (hl : lo.length ≤ 1048577) : ∃ r : List Int × Bool, Ev (fun k => spec_EmptyWagons.f k ts xs lo) r ∧ Ev (fun k => impl_EmptyWagons.f k ts xs lo) r ∧ r.1.length ≤ 1048577 := by
 obtain ⟨b, h1, h2, h3⟩ := good ts ht xs hx lo hl
 unfold spec_EmptyWagons.f impl_EmptyWagons.f
 by_cases c : b = true
 ·have h8 := (h3.1 c).1.1
  have pos : 0 < (upN ts.length).length := by rw [upN_len]; omega
  have S : ∀ d i : Nat, i + d = ts.length → Ev (fun k => spec_EmptyWagons.l0 k ts lo ((upN i).filter fun x => !decide (x ∈ lo)) i) ((upN ts.length).filter fun x => !decide (x ∈ lo), true) := by
   intro d
   induction d with
   | zero =>
    intro i hi
    obtain rfl : i = ts.length := by omega
    exact Ev.step (fun k => spec_EmptyWagons.l0.eq_2 ..) (Ev.neg (by omega) (Ev.now _))
   | succ d ih =>
    intro i hi
    have hlen : ((upN i).filter fun x => !decide (x ∈ lo)).length < 17592186044416 := Nat.lt_of_le_of_lt (List.length_filter_le _ _) (by rw [upN_len]; omega)
    have li : (i : Int) < ts.length := by omega
    have ha := has_eq lo (by omega) (i : Int)
    have w1 : wrap64 ((i : Int) + 1) = ((i + 1 : Nat) : Int) := by rw [w64 (by omega) (by omega)]; rfl
    have := ih (i + 1) (by omega)
    rw [upN_succ, List.filter_append, ← w1] at this
    by_cases q : (i : Int) ∈ lo
    ·have e : [(i : Int)].filter (fun x => !decide (x ∈ lo)) = [] := by simp [q]
     rw [e, List.append_nil] at this
     exact Ev.step (fun k => spec_EmptyWagons.l0.eq_2 ..) (Ev.pos li (Ev.bind ha (Ev.pos (decide_eq_true q) this)))
    ·have e : [(i : Int)].filter (fun x => !decide (x ∈ lo)) = [(i : Int)] := by simp [q]
     rw [e] at this
     exact Ev.step (fun k => spec_EmptyWagons.l0.eq_2 ..) (Ev.pos li (Ev.bind ha (Ev.neg (fun h => q (of_decide_eq_true h)) (Ev.pos hlen this))))
  have D : slices_DeleteFunc_int.f (upN ts.length) lo = some ((upN ts.length).filter fun x => !decide (x ∈ lo)) := by
   unfold slices_DeleteFunc_int.f
   rw [if_pos pos]
  exact ⟨((upN ts.length).filter fun x => !decide (x ∈ lo), true), Ev.some (Ev.bind h1 (Ev.pos c (S ts.length 0 (by omega)))), Ev.bind h2 (Ev.pos c (Ev.bind (upTo_eq ts.length ht) (Ev.const D (Ev.now _)))), Nat.le_trans (List.length_filter_le _ _) (by rw [upN_len]; exact ht)⟩
 ·exact ⟨([], false), Ev.some (Ev.bind h1 (Ev.neg c (Ev.now _))), Ev.bind h2 (Ev.neg c (Ev.now _)), by simp⟩
theorem rd_set_self (ys : List Int) (i : Nat) (v : Int) (h : i < ys.length) : rd (ys.set i v) (i : Int) = v := by
 unfold rd
 rw [Int.toNat_natCast, List.getD_eq_getElem?_getD, List.getElem?_set_self h]
 rfl
theorem rd_set_ne (ys : List Int) (i j : Nat) (v : Int) (h : j ≠ i) : rd (ys.set i v) (j : Int) = rd ys (j : Int) := by
 unfold rd
 rw [Int.toNat_natCast, List.getD_eq_getElem?_getD, List.getElem?_set_ne (by omega), ← List.getD_eq_getElem?_getD]
theorem eqIntS (l : List Int) (hl : l.length ≤ 1000000000) : Ev (fun k => laws_eqIntS.f k l l) true := by
 unfold laws_eqIntS.f
 refine Ev.pos rfl ?_
 refine down_ev l.length (fun k i => laws_eqIntS.l0 k l l i) ?_ ?_
 ·intro i h hr
  refine Ev.step (fun k => laws_eqIntS.l0.eq_2 ..) (Ev.pos (by omega) (Ev.pos (by omega) (Ev.pos (by omega) (Ev.pos rfl ?_))))
  rw [w64 (by omega) (by omega)]
  exact hr
 ·exact Ev.step (fun k => laws_eqIntS.l0.eq_2 ..) (Ev.neg (by omega) (Ev.now _))
theorem markIntS_at (l : List Int) (hl : l.length ≤ 1000000000) (a : Int) (h0 : 0 ≤ a) (h1 : a ≤ 1000000000) : ∀ d i : Nat, i + d = l.length → ∀ ys : List Int, ys.length = l.length → (∀ j : Nat, j < i → rd ys j = a + j) →
  ∃ zs : List Int, zs.length = l.length ∧ (∀ j : Nat, j < l.length → rd zs j = a + j) ∧ Ev (fun k => laws_markIntS.l0 k ys (a + i) i) (a + l.length, zs) := by
 intro d
 induction d with
 | zero =>
  intro i hi ys hy hm
  obtain rfl : i = l.length := by omega
  exact ⟨ys, hy, hm, Ev.step (fun k => laws_markIntS.l0.eq_2 ..) (Ev.neg (by omega) (Ev.now _))⟩
 | succ d ih =>
  intro i hi ys hy hm
  obtain ⟨zs, z1, z2, z3⟩ := ih (i + 1) (by omega) (ys.set i (a + i)) (by simpa using hy) (fun j hj => by
   rcases Nat.lt_or_ge j i with h | h
   ·rw [rd_set_ne _ _ _ _ (by omega)]
    exact hm j h
   ·obtain rfl : j = i := by omega
    exact rd_set_self _ _ _ (by omega))
  have e2 : wrap64 (a + i + 1) = a + ((i + 1 : Nat) : Int) := by rw [w64 (by omega) (by omega)]; omega
  have e3 : wrap64 ((i : Int) + 1) = ((i + 1 : Nat) : Int) := by rw [w64 (by omega) (by omega)]; rfl
  refine ⟨zs, z1, z2, Ev.step (fun k => laws_markIntS.l0.eq_2 ..) (Ev.pos (by omega) (Ev.pos (by omega) ?_))⟩
  rw [e2, e3, Int.toNat_natCast]
  exact z3
def Marked (zs : List Int) (a : Int) : Prop := ∀ j : Nat, j < zs.length → rd zs j = a + j
theorem markIntS' (l : List Int) (hl : l.length ≤ 1000000000) (a : Int) (h0 : 0 ≤ a) (h1 : a ≤ 1000000000) : ∃ zs : List Int, zs.length = l.length ∧ Marked zs a ∧ Ev (fun k => laws_markIntS.f k l a) (a + l.length, zs) := by
 obtain ⟨zs, z1, z2, z3⟩ := markIntS_at l hl a h0 h1 l.length 0 (by omega) l rfl (fun j hj => by omega)
 exact ⟨zs, z1, (fun j hj => z2 j (by omega)), by unfold laws_markIntS.f; simpa using z3⟩
theorem heldIntS (zs : List Int) (hl : zs.length ≤ 1000000000) (a : Int) (h0 : 0 ≤ a) (h1 : a ≤ 1000000000) (hz : Marked zs a) : Ev (fun k => laws_heldIntS.f k zs a) (a + zs.length) := by
 unfold laws_heldIntS.f
 have held : ∀ d i : Nat, i + d = zs.length → Ev (fun k => laws_heldIntS.l0 k zs (a + i) i) (a + zs.length) := by
  intro d
  induction d with
  | zero =>
   intro i hi
   obtain rfl : i = zs.length := by omega
   exact Ev.step (fun k => laws_heldIntS.l0.eq_2 ..) (Ev.neg (by omega) (Ev.now _))
  | succ d ih =>
   intro i hi
   have := ih (i + 1) (by omega)
   have e2 : wrap64 (a + i + 1) = a + ((i + 1 : Nat) : Int) := by rw [w64 (by omega) (by omega)]; omega
   have e3 : wrap64 ((i : Int) + 1) = ((i + 1 : Nat) : Int) := by rw [w64 (by omega) (by omega)]; rfl
   refine Ev.step (fun k => laws_heldIntS.l0.eq_2 ..) (Ev.pos (by omega) (Ev.pos (by omega) (Ev.pos (hz i (by omega)) ?_)))
   rw [e2, e3]
   exact this
 simpa using held zs.length 0 (by omega)
theorem markIntS (l : List Int) (hl : l.length ≤ 1000000000) (a : Int) (h0 : 0 ≤ a) (h1 : a ≤ 1000000000) : ∃ zs : List Int, Ev (fun k => laws_markIntS.f k l a) (a + l.length, zs) ∧ Ev (fun k => laws_heldIntS.f k zs a) (a + l.length) := by
 obtain ⟨zs, z1, z2, z3⟩ := markIntS' l hl a h0 h1
 refine ⟨zs, z3, ?_⟩
 rw [← z1]
 exact heldIntS zs (by omega) a h0 h1 z2
def mkWagon (v : Int) : S70 := ⟨v, v + 1⟩
theorem markWagonS (l : List S70) (hl : l.length ≤ 1048577) (a : Int) (h0 : 0 ≤ a) (h1 : a ≤ 1000000000) : ∃ zs : List S70, Ev (fun k => laws_markWagonS.f k l a) (a + 2 * l.length, zs) := by
 unfold laws_markWagonS.f
 obtain ⟨zs, _, _, z3⟩ := mark_ev l.length 2 a mkWagon (fun k ys v i => laws_markWagonS.l0 k ys v i) (fun i h ys hy r hr => by
  have e1 : wrap64 (a + 2 * i + 1) = a + 2 * i + 1 := w64 (by omega) (by omega)
  have e4 : wrap64 (a + 2 * i + 1 + 1) = a + 2 * ((i + 1 : Nat) : Int) := by rw [w64 (by omega) (by omega)]; omega
  have e3 : wrap64 ((i : Int) + 1) = ((i + 1 : Nat) : Int) := by rw [w64 (by omega) (by omega)]; rfl
  refine Ev.step (fun k => laws_markWagonS.l0.eq_2 ..) (Ev.pos (by omega) (Ev.pos (by omega) (Ev.some ?_)))
  rw [e1, e3, e4]
  simp only [rd_T70, Int.toNat_natCast, List.set_set]
  rw [set_getD (by omega)]
  exact hr) (fun ys hy => Ev.step (fun k => laws_markWagonS.l0.eq_2 ..) (Ev.neg (by omega) (Ev.now _))) l rfl
 exact ⟨zs, z3⟩
theorem strOne_size (x : Int) : (strOfNums [x]).size = 1 := rfl
theorem markText_at : ∀ (n : Nat) (v : Int) (s : ByteArray), 0 ≤ v → v.toNat ≤ n → (s.size : Int) + v ≤ 1000000000000 → ∃ t, Ev (fun k => laws_markText.l0 k v s) t := by
 intro n
 induction n with
 | zero =>
  intro v s h0 h1 h2
  exact ⟨_, Ev.step (fun k => laws_markText.l0.eq_2 ..) (Ev.neg (by omega) (Ev.pos (by omega) (Ev.now _)))⟩
 | succ n ih =>
  intro v s h0 h1 h2
  by_cases c : v > 0
  ·have e : wrap64 (Int.tdiv v 10) = v / 10 := by
    rw [Int.tdiv_eq_ediv_of_nonneg h0, w64 (by omega) (by omega)]
   obtain ⟨t, ht⟩ := ih (v / 10) ((strOfNums [(wrap64 (48 + (Int.tmod v 10))) % 256]) ++ s) (by omega) (by omega) (by rw [ByteArray.size_append, strOne_size]; omega)
   refine ⟨t, Ev.step (fun k => laws_markText.l0.eq_2 ..) (Ev.pos c (Ev.some (Ev.pos (by rw [strOne_size]; omega) ?_)))⟩
   rw [e]
   exact ht
  ·exact ⟨_, Ev.step (fun k => laws_markText.l0.eq_2 ..) (Ev.neg c (Ev.pos (by omega) (Ev.now _)))⟩
theorem markText_ex (v : Int) : ∃ t, 0 ≤ v → v ≤ 100000000000 → Ev (fun k => laws_markText.f k v) t := by
 by_cases h : 0 ≤ v ∧ v ≤ 100000000000
 ·by_cases c : v ≤ 0
  ·exact ⟨_, fun _ _ => by unfold laws_markText.f; exact Ev.pos c (Ev.now _)⟩
  ·obtain ⟨t, ht⟩ := markText_at v.toNat v (⟨#[]⟩ : ByteArray) h.1 (Nat.le_refl _) (by show ((0 : Nat) : Int) + v ≤ _; omega)
   exact ⟨t, fun _ _ => by unfold laws_markText.f; exact Ev.neg c ht⟩
 ·exact ⟨⟨#[]⟩, fun h0 h1 => absurd ⟨h0, h1⟩ h⟩
noncomputable def mtxt (v : Int) : ByteArray := Classical.choose (markText_ex v)
theorem markText_eq (v : Int) (h0 : 0 ≤ v) (h1 : v ≤ 100000000000) : Ev (fun k => laws_markText.f k v) (mtxt v) := Classical.choose_spec (markText_ex v) h0 h1
noncomputable def mkContainer (v : Int) : S64 := ⟨mtxt v, v + 1, v + 2, v + 3, v + 4⟩
theorem markContainerS (l : List S64) (hl : l.length ≤ 1048577) (a : Int) (h0 : 0 ≤ a) (h1 : a ≤ 1000000000) : ∃ ys : List S64, Ev (fun k => laws_markContainerS.f k l a) (a + 5 * l.length, ys) := by
 unfold laws_markContainerS.f
 obtain ⟨zs, _, _, z3⟩ := mark_ev l.length 5 a mkContainer (fun k ys v i => laws_markContainerS.l0 k ys v i) (fun i h ys hy r hr => by
  have e1 : wrap64 (a + 5 * i + 1) = a + 5 * i + 1 := w64 (by omega) (by omega)
  have e2 : wrap64 (a + 5 * i + 1 + 1) = a + 5 * i + 2 := by rw [w64 (by omega) (by omega)]; omega
  have e4 : wrap64 (a + 5 * i + 2 + 1) = a + 5 * i + 3 := by rw [w64 (by omega) (by omega)]; omega
  have e5 : wrap64 (a + 5 * i + 3 + 1) = a + 5 * i + 4 := by rw [w64 (by omega) (by omega)]; omega
  have e6 : wrap64 (a + 5 * i + 4 + 1) = a + 5 * ((i + 1 : Nat) : Int) := by rw [w64 (by omega) (by omega)]; omega
  have e3 : wrap64 ((i : Int) + 1) = ((i + 1 : Nat) : Int) := by rw [w64 (by omega) (by omega)]; rfl
  refine Ev.step (fun k => laws_markContainerS.l0.eq_2 ..) (Ev.pos (by omega) (Ev.bind (markText_eq _ (by omega) (by omega)) (Ev.pos (by omega) (Ev.some (Ev.some (Ev.some (Ev.some ?_)))))))
  rw [e1, e2, e3, e4, e5, e6]
  simp only [rd_T64, Int.toNat_natCast, List.set_set]
  rw [set_getD (by omega), set_getD (by omega), set_getD (by omega), set_getD (by omega)]
  exact hr) (fun ys hy => Ev.step (fun k => laws_markContainerS.l0.eq_2 ..) (Ev.neg (by omega) (Ev.now _))) l rfl
 exact ⟨zs, z3⟩
theorem FnExactEmptyWagons : ∀ (l0 : (List S74)) (l1 : (List S80)) (l2 : (List Int)), (l0.length ≤ 9223372036854775807 ∧ ∀ x ∈ l0, inv74 x) → (l1.length ≤ 9223372036854775807 ∧ ∀ x ∈ l1, inv80 x) → (l2.length ≤ 9223372036854775807 ∧ ∀ x ∈ l2, (Lit.int .i64 x).wf = true) → ∃ k, laws_FnExactEmptyWagons.f k l0 l1 l2 = some true := by
 intro l0 l1 l2 ⟨hl, _⟩ ⟨hk, hx⟩ _
 refine Ev.rounds ?_
 unfold laws_FnExactEmptyWagons.f
 refine Ev.ite (fun _ => Ev.now _) (fun hn2 => ?_)
 refine Ev.const (szWagonS l0 1048576 (by omega) (by omega) hl) ?_
 by_cases hz : (1048576 : Int) < l0.length
 ·exact Ev.pos (by rw [if_pos hz]; omega) (Ev.now _)
 ·refine Ev.neg (by rw [if_neg hz]; omega) ?_
  rw [if_neg hz]
  obtain ⟨z, z1, z2⟩ := szContainerS l1 (1048576 - l0.length) (by omega) (by omega) hk (fun x h => (hx x h).1)
  refine Ev.bind z1 ?_
  by_cases hz' : z < 0
  ·exact Ev.pos hz' (Ev.now _)
  ·refine Ev.neg hz' ?_
   obtain ⟨hn1, _⟩ := z2 (by omega)
   have tv := toWagonS l0 (by omega)
   have tx := toContainerS l1 hn1
   have tl := toIntS l2 (by omega)
   obtain ⟨r, h1, h2, hr⟩ := emptyWagons (l0.map convWagon) (by simp; omega) (l1.map convContainer) (by simp; omega) l2 (by omega)
   have ev := eqWagonS (l0.map convWagon) (by simp; omega)
   have ex := eqContainerS (l1.map convContainer) (by simp; omega)
   have el := eqIntS l2 (by omega)
   have er := eqIntS r.1 (by omega)
   obtain ⟨m0, mv⟩ := markWagonS (l0.map convWagon) (by simp; omega) 1 (by omega) (by omega)
   rw [List.length_map] at mv
   obtain ⟨m1, mx⟩ := markContainerS (l1.map convContainer) (by simp; omega) (1 + 2 * l0.length) (by omega) (by omega)
   rw [List.length_map] at mx
   obtain ⟨m2, ml, _⟩ := markIntS l2 (by omega) (1 + 2 * l0.length + 5 * l1.length) (by omega) (by omega)
   obtain ⟨n1, n2, n3⟩ := markIntS r.1 (by omega) 1 (by omega) (by omega)
   refine Ev.bind tv (Ev.bind tx (Ev.bind tl (Ev.bind h1 (Ev.bind tv (Ev.bind tx (Ev.bind tl (Ev.bind h2 (Ev.bind er (Ev.pos rfl ?_)))))))))
   refine Ev.step (fun k => laws_FnExactEmptyWagons.j0.eq_2 ..) (Ev.neg (by simp) (Ev.bind tv (Ev.bind ev (Ev.pos rfl (Ev.bind tx (Ev.bind ex (Ev.pos rfl (Ev.bind tl (Ev.bind el (Ev.pos rfl (Ev.bind mv (Ev.bind mx (Ev.bind ml (Ev.neg (by show ¬ _; omega) (Ev.bind er (Ev.pos rfl ?_))))))))))))))))
   refine Ev.step (fun k => laws_FnExactEmptyWagons.j1.eq_2 ..) (Ev.neg (by simp) (Ev.bind n2 (Ev.bind n3 (Ev.neg (by omega) (Ev.pos rfl (Ev.bind tv (Ev.bind tx (Ev.bind tl (Ev.bind h2 (Ev.bind er (Ev.pos rfl ?_)))))))))))
   exact Ev.step (fun k => laws_FnExactEmptyWagons.j2.eq_2 ..) (Ev.neg (by simp) (Ev.bind n3 (Ev.neg (by omega) (Ev.pos rfl (Ev.now _)))))
end Go.Proofs.Ythfbnadlpninaaa.Pure
