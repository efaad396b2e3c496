/- The program's CloseSlot returns what the reference's returns, for all arguments; the arguments read as they did, and the result is new memory. No condition. -/
import Derived.Test.YtglfjaaaegfdnaaInvFnExactCloseSlot
import Derived.Test.YtglfjaaaegfdnaaWHelp
namespace Go.Proofs.Ytglfjaaaegfdnaa.Pure
open Go.RowKit Go.Proofs.YtglfjaaaegfdnaaW.PrintWords Go.Proofs.YtglfjaaaegfdnaaW.PrintLast Go.Proofs.YtglfjaaaegfdnaaW.PrintMore Go.Proofs.YtglfjaaaegfdnaaW.Help Go.Proofs.Ytglfjaaaegfdnaa.PFnExactCloseSlot
set_option linter.unusedVariables false
theorem toIntS (l : List Int) (hl : l.length ≤ 1048576) : Ev (fun k => laws_toIntS.f k l) l := by
 unfold laws_toIntS.f
 refine Ev.pos (by omega) (Ev.pos (by omega) ?_)
 simp only [Int.toNat_natCast]
 refine Ev.eq (fill_ev l (fun x => x) 0 (fun k ys i => laws_toIntS.l0 k l ys i) ?_ ?_) (List.map_id' l)
 ·intro i h ys hy r hr
  refine Ev.step (fun k => laws_toIntS.l0.eq_2 ..) (Ev.pos (by omega) (Ev.pos (by omega) (Ev.pos (by omega) ?_)))
  rw [w64 (by omega) (by omega)]
  have e : rd l (i : Int) = l[i] := by
   unfold rd
   rw [Int.toNat_natCast]
   exact getD_of (List.getElem?_eq_getElem h)
  rw [e, Int.toNat_natCast]
  exact hr
 ·intro ys hy
  exact Ev.step (fun k => laws_toIntS.l0.eq_2 ..) (Ev.neg (by omega) (Ev.now _))
theorem rd_set_self (ys : List Int) (i : Nat) (v : Int) (h : i < ys.length) : rd (ys.set i v) (i : Int) = v := by
 unfold rd
 rw [Int.toNat_natCast, List.getD_eq_getElem?_getD, List.getElem?_set_self h]
 rfl
theorem rd_set_ne (ys : List Int) (i j : Nat) (v : Int) (h : j ≠ i) : rd (ys.set i v) (j : Int) = rd ys (j : Int) := by
 unfold rd
 rw [Int.toNat_natCast, List.getD_eq_getElem?_getD, List.getElem?_set_ne (by omega), ← List.getD_eq_getElem?_getD]
theorem eqIntS (l : List Int) (hl : l.length ≤ 1000000000) : Ev (fun k => laws_eqIntS.f k l l) true := by
 unfold laws_eqIntS.f
 refine Ev.pos rfl ?_
 refine down_ev l.length (fun k i => laws_eqIntS.l0 k l l i) ?_ ?_
 ·intro i h hr
  refine Ev.step (fun k => laws_eqIntS.l0.eq_2 ..) (Ev.pos (by omega) (Ev.pos (by omega) (Ev.pos (by omega) (Ev.pos rfl ?_))))
  rw [w64 (by omega) (by omega)]
  exact hr
 ·exact Ev.step (fun k => laws_eqIntS.l0.eq_2 ..) (Ev.neg (by omega) (Ev.now _))
theorem szIntS (l : List Int) (a : Int) (h0 : 0 ≤ a) (h1 : a ≤ 1048576) (hl : l.length ≤ 9223372036854775807) : laws_szIntS.f l a = some (if a < l.length then -1 else a - l.length) := by
 unfold laws_szIntS.f
 rw [w64 (by omega) (by omega)]
 by_cases h : a < l.length
 ·rw [if_pos (by omega), if_pos h]
 ·rw [if_neg (by omega), if_neg h]
theorem szIntSS (l : List (List Int)) (a : Int) (ha0 : 0 ≤ a) (ha : a ≤ 1048576) (hl : l.length ≤ 9223372036854775807) (hx : ∀ x ∈ l, x.length ≤ 9223372036854775807) : ∃ r : Int, Ev (fun k => laws_szIntSS.f k l a) r ∧ (0 ≤ r → l.length ≤ 1048576 ∧ ∀ x ∈ l, x.length ≤ 1048576) := by
 unfold laws_szIntSS.f
 rw [w64 (by omega) (by omega)]
 by_cases c : a < l.length
 ·exact ⟨-1, Ev.pos (by omega) (Ev.now _), fun h => by omega⟩
 ·have main : ∀ d i : Nat, i + d = l.length → ∀ a : Int, 0 ≤ a → a ≤ 1048576 → ∃ r : Int, Ev (fun k => laws_szIntSS.l0 k l a i) r ∧ (0 ≤ r → ∀ j : Nat, i ≤ j → (h : j < l.length) → l[j].length ≤ 1048576) := by
   intro d
   induction d with
   | zero =>
    intro i hi a h0 h1
    exact ⟨a, Ev.step (fun k => laws_szIntSS.l0.eq_2 ..) (Ev.neg (by omega) (Ev.now _)), fun _ j hj h => by omega⟩
   | succ d ih =>
    intro i hi a h0 h1
    have e : rd_L1 l (i : Int) = l[i]'(by omega) := by
     unfold rd_L1
     rw [Int.toNat_natCast]
     exact getD_of (List.getElem?_eq_getElem (by omega))
    have hxi := hx (l[i]'(by omega)) (List.getElem_mem _)
    have w1 : wrap64 ((i : Int) + 1) = ((i + 1 : Nat) : Int) := by rw [w64 (by omega) (by omega)]; rfl
    have sz := szIntS (l[i]'(by omega)) a h0 h1 hxi
    by_cases q : a < (l[i]'(by omega)).length
    ·rw [if_pos q] at sz
     refine ⟨-1, Ev.step (fun k => laws_szIntSS.l0.eq_2 ..) (Ev.pos (by omega) (Ev.pos (by omega) ?_)), fun h => by omega⟩
     rw [e]
     exact Ev.const sz (Ev.pos (by omega) (Ev.now _))
    ·rw [if_neg q] at sz
     obtain ⟨r, r1, r2⟩ := ih (i + 1) (by omega) (a - (l[i]'(by omega)).length) (by omega) (by omega)
     refine ⟨r, Ev.step (fun k => laws_szIntSS.l0.eq_2 ..) (Ev.pos (by omega) (Ev.pos (by omega) ?_)), fun h j hj hlt => ?_⟩
     ·rw [e, w1]
      exact Ev.const sz (Ev.neg (by omega) r1)
     ·rcases Nat.lt_or_ge i j with h3 | h3
      ·exact r2 h j h3 hlt
      ·obtain rfl : j = i := by omega
       omega
  obtain ⟨r, r1, r2⟩ := main l.length 0 (by omega) (a - l.length) (by omega) (by omega)
  refine ⟨r, Ev.neg (by omega) r1, fun h => ⟨by omega, fun x hx' => ?_⟩⟩
  obtain ⟨j, hj, rfl⟩ := List.getElem_of_mem hx'
  exact r2 h j (by omega) hj
theorem szGate (c : List Int) (l : List (List Int)) (hc : c.length ≤ 9223372036854775807) (hl : l.length ≤ 9223372036854775807) (hx : ∀ x ∈ l, x.length ≤ 9223372036854775807) : ∃ r : Int, Ev (fun k => laws_szGate.f k c l 1048576) r ∧ (0 ≤ r → c.length ≤ 1048576 ∧ l.length ≤ 1048576 ∧ ∀ x ∈ l, x.length ≤ 1048576) := by
 unfold laws_szGate.f
 have s := szIntS c 1048576 (by omega) (by omega) hc
 by_cases q : (1048576 : Int) < c.length
 ·rw [if_pos q] at s
  exact ⟨-1, Ev.const s (Ev.pos (by omega) (Ev.now _)), fun h => by omega⟩
 ·rw [if_neg q] at s
  obtain ⟨r, r1, r2⟩ := szIntSS l (1048576 - c.length) (by omega) (by omega) hl hx
  by_cases z : r < 0
  ·exact ⟨-1, Ev.const s (Ev.neg (by omega) (Ev.bind r1 (Ev.pos z (Ev.now _)))), fun h => by omega⟩
  ·exact ⟨r, Ev.const s (Ev.neg (by omega) (Ev.bind r1 (Ev.neg z (Ev.now _)))), fun h => ⟨by omega, r2 h⟩⟩
theorem toIntSS (l : List (List Int)) (hl : l.length ≤ 1048576) (hx : ∀ x ∈ l, x.length ≤ 1048576) : Ev (fun k => laws_toIntSS.f k l) l := by
 unfold laws_toIntSS.f
 refine Ev.pos (by omega) (Ev.pos (by omega) ?_)
 simp only [Int.toNat_natCast]
 refine Ev.eq (fill_ev l (fun x => x) [] (fun k ys i => laws_toIntSS.l0 k l ys i) ?_ ?_) (List.map_id' l)
 ·intro i h ys hy r hr
  have e : rd_L1 l (i : Int) = l[i] := by
   unfold rd_L1
   rw [Int.toNat_natCast]
   exact getD_of (List.getElem?_eq_getElem h)
  refine Ev.step (fun k => laws_toIntSS.l0.eq_2 ..) (Ev.pos (by omega) (Ev.pos (by omega) ?_))
  rw [e]
  refine Ev.bind (toIntS l[i] (hx _ (List.getElem_mem _))) (Ev.pos (by omega) ?_)
  rw [w64 (by omega) (by omega), Int.toNat_natCast]
  exact hr
 ·intro ys hy
  exact Ev.step (fun k => laws_toIntSS.l0.eq_2 ..) (Ev.neg (by omega) (Ev.now _))
theorem eqIntSS (l : List (List Int)) (hl : l.length ≤ 1048576) (hx : ∀ x ∈ l, x.length ≤ 1048576) : Ev (fun k => laws_eqIntSS.f k l l) true := by
 unfold laws_eqIntSS.f
 refine Ev.pos rfl ?_
 refine down_ev l.length (fun k i => laws_eqIntSS.l0 k l l i) ?_ ?_
 ·intro i h hr
  have e : rd_L1 l (i : Int) = l[i] := by
   unfold rd_L1
   rw [Int.toNat_natCast]
   exact getD_of (List.getElem?_eq_getElem h)
  refine Ev.step (fun k => laws_eqIntSS.l0.eq_2 ..) (Ev.pos (by omega) (Ev.pos (by omega) (Ev.pos (by omega) ?_)))
  rw [e]
  refine Ev.bind (eqIntS _ (by have := hx _ (List.getElem_mem h); omega)) (Ev.pos rfl ?_)
  rw [w64 (by omega) (by omega)]
  exact hr
 ·exact Ev.step (fun k => laws_eqIntSS.l0.eq_2 ..) (Ev.neg (by omega) (Ev.now _))
theorem toGate (c : List Int) (l : List (List Int)) (hc : c.length ≤ 1048576) (hl : l.length ≤ 1048576) (hx : ∀ x ∈ l, x.length ≤ 1048576) : Ev (fun k => laws_toGate.f k c l) (c, l) := by
 unfold laws_toGate.f
 exact Ev.bind (toIntS c hc) (Ev.bind (toIntSS l hl hx) (Ev.now _))
theorem eqGate (c : List Int) (l : List (List Int)) (hc : c.length ≤ 1048576) (hl : l.length ≤ 1048576) (hx : ∀ x ∈ l, x.length ≤ 1048576) : Ev (fun k => laws_eqGate.f k c l c l) true := by
 unfold laws_eqGate.f
 exact Ev.bind (eqIntS c (by omega)) (Ev.pos rfl (Ev.bind (eqIntSS l hl hx) (Ev.pos rfl (Ev.now _))))
theorem markIntS_at (l : List Int) (hl : l.length ≤ 1000000000) (a : Int) (h0 : 0 ≤ a) (h1 : a ≤ 4000000000000000000) : ∀ d i : Nat, i + d = l.length → ∀ ys : List Int, ys.length = l.length → (∀ j : Nat, j < i → rd ys j = a + j) →
  ∃ zs : List Int, zs.length = l.length ∧ (∀ j : Nat, j < l.length → rd zs j = a + j) ∧ Ev (fun k => laws_markIntS.l0 k ys (a + i) i) (a + l.length, zs) := by
 intro d
 induction d with
 | zero =>
  intro i hi ys hy hm
  obtain rfl : i = l.length := by omega
  exact ⟨ys, hy, hm, Ev.step (fun k => laws_markIntS.l0.eq_2 ..) (Ev.neg (by omega) (Ev.now _))⟩
 | succ d ih =>
  intro i hi ys hy hm
  obtain ⟨zs, z1, z2, z3⟩ := ih (i + 1) (by omega) (ys.set i (a + i)) (by simpa using hy) (fun j hj => by
   rcases Nat.lt_or_ge j i with h | h
   ·rw [rd_set_ne _ _ _ _ (by omega)]
    exact hm j h
   ·obtain rfl : j = i := by omega
    exact rd_set_self _ _ _ (by omega))
  have e2 : wrap64 (a + i + 1) = a + ((i + 1 : Nat) : Int) := by rw [w64 (by omega) (by omega)]; omega
  have e3 : wrap64 ((i : Int) + 1) = ((i + 1 : Nat) : Int) := by rw [w64 (by omega) (by omega)]; rfl
  refine ⟨zs, z1, z2, Ev.step (fun k => laws_markIntS.l0.eq_2 ..) (Ev.pos (by omega) (Ev.pos (by omega) ?_))⟩
  rw [e2, e3, Int.toNat_natCast]
  exact z3
def Marked (zs : List Int) (a : Int) : Prop := ∀ j : Nat, j < zs.length → rd zs j = a + j
theorem markIntS' (l : List Int) (hl : l.length ≤ 1000000000) (a : Int) (h0 : 0 ≤ a) (h1 : a ≤ 4000000000000000000) : ∃ zs : List Int, zs.length = l.length ∧ Marked zs a ∧ Ev (fun k => laws_markIntS.f k l a) (a + l.length, zs) := by
 obtain ⟨zs, z1, z2, z3⟩ := markIntS_at l hl a h0 h1 l.length 0 (by omega) l rfl (fun j hj => by omega)
 exact ⟨zs, z1, (fun j hj => z2 j (by omega)), by unfold laws_markIntS.f; simpa using z3⟩
theorem heldIntS (zs : List Int) (hl : zs.length ≤ 1000000000) (a : Int) (h0 : 0 ≤ a) (h1 : a ≤ 4000000000000000000) (hz : Marked zs a) : Ev (fun k => laws_heldIntS.f k zs a) (a + zs.length) := by
 unfold laws_heldIntS.f
 have held : ∀ d i : Nat, i + d = zs.length → Ev (fun k => laws_heldIntS.l0 k zs (a + i) i) (a + zs.length) := by
  intro d
  induction d with
  | zero =>
   intro i hi
   obtain rfl : i = zs.length := by omega
   exact Ev.step (fun k => laws_heldIntS.l0.eq_2 ..) (Ev.neg (by omega) (Ev.now _))
  | succ d ih =>
   intro i hi
   have := ih (i + 1) (by omega)
   have e2 : wrap64 (a + i + 1) = a + ((i + 1 : Nat) : Int) := by rw [w64 (by omega) (by omega)]; omega
   have e3 : wrap64 ((i : Int) + 1) = ((i + 1 : Nat) : Int) := by rw [w64 (by omega) (by omega)]; rfl
   refine Ev.step (fun k => laws_heldIntS.l0.eq_2 ..) (Ev.pos (by omega) (Ev.pos (by omega) (Ev.pos (hz i (by omega)) ?_)))
   rw [e2, e3]
   exact this
 simpa using held zs.length 0 (by omega)
theorem markIntS (l : List Int) (hl : l.length ≤ 1000000000) (a : Int) (h0 : 0 ≤ a) (h1 : a ≤ 4000000000000000000) : ∃ zs : List Int, Ev (fun k => laws_markIntS.f k l a) (a + l.length, zs) ∧ Ev (fun k => laws_heldIntS.f k zs a) (a + l.length) := by
 obtain ⟨zs, z1, z2, z3⟩ := markIntS' l hl a h0 h1
 refine ⟨zs, z3, ?_⟩
 rw [← z1]
 exact heldIntS zs (by omega) a h0 h1 z2
theorem getDL (ys : List (List Int)) (i : Nat) (h : i < ys.length) : ys.getD i [] = ys[i] := by
 rw [List.getD_eq_getElem?_getD, List.getElem?_eq_getElem h]
 rfl
theorem markIntSS_at : ∀ d i : Nat, ∀ (ys : List (List Int)) (a : Int), i + d = ys.length → ys.length ≤ 1048576 → 0 ≤ a → a + 1048576 * d ≤ 3000000000000000000 → (∀ x ∈ ys.drop i, x.length ≤ 1048576) →
  ∃ (z : Int) (zs : List (List Int)), zs.length = ys.length ∧ (∀ j : Nat, j < i → zs[j]? = ys[j]?) ∧ (a ≤ z ∧ z ≤ a + 1048576 * d) ∧ Ev (fun k => laws_markIntSS.l0 k ys a i) (z, zs) ∧ Ev (fun k => laws_heldIntSS.l0 k zs a i) z := by
 intro d
 induction d with
 | zero =>
  intro i ys a hi hl h0 h1 hx
  exact ⟨a, ys, rfl, fun _ _ => rfl, ⟨Int.le_refl _, by omega⟩, Ev.step (fun k => laws_markIntSS.l0.eq_2 ..) (Ev.neg (by omega) (Ev.now _)), Ev.step (fun k => laws_heldIntSS.l0.eq_2 ..) (Ev.neg (by omega) (Ev.now _))⟩
 | succ d ih =>
  intro i ys a hi hl h0 h1 hx
  have li : i < ys.length := by omega
  have li' : (i : Int) < ys.length := by omega
  have i0 : (0 : Int) ≤ i := by omega
  rw [List.drop_eq_getElem_cons li] at hx
  have hr := hx ys[i] List.mem_cons_self
  obtain ⟨zr, z1, z2⟩ := markIntS ys[i] (by omega) a h0 (by omega)
  obtain ⟨z, zs, e1, e2, e3, e4, e5⟩ := ih (i + 1) (ys.set i zr) (a + ys[i].length) (by rw [List.length_set]; omega) (by rw [List.length_set]; omega) (by omega) (by omega) (fun x h => by
   rw [List.drop_set_of_lt (by omega)] at h
   exact hx x (List.mem_cons_of_mem _ h))
  rw [List.length_set] at e1
  have ez : zs[i]? = some zr := by rw [e2 i (by omega), List.getElem?_set_self li]
  have er : rd_L1 zs (i : Int) = zr := by
   unfold rd_L1
   rw [Int.toNat_natCast]
   exact getD_of ez
  have lz : (i : Int) < zs.length := by omega
  have nz : ¬ a + (ys[i].length : Int) < 0 := by omega
  have w1 : wrap64 ((i : Int) + 1) = ((i + 1 : Nat) : Int) := by rw [w64 (by omega) (by omega)]; rfl
  refine ⟨z, zs, e1, fun j hj => by rw [e2 j (by omega), List.getElem?_set_ne (by omega)], ⟨by omega, by omega⟩, Ev.step (fun k => laws_markIntSS.l0.eq_2 ..) (Ev.pos li' (Ev.pos i0 ?_)), Ev.step (fun k => laws_heldIntSS.l0.eq_2 ..) (Ev.pos lz (Ev.pos i0 ?_))⟩
  ·rw [Int.toNat_natCast, getDL ys i li, w1]
   exact Ev.bind z1 e4
  ·rw [er, w1]
   exact Ev.bind z2 (Ev.neg nz e5)
theorem markGate (c : List Int) (l : List (List Int)) (hc : c.length ≤ 1048576) (hl : l.length ≤ 1048576) (hx : ∀ x ∈ l, x.length ≤ 1048576) : ∃ (z : Int) (c' : List Int) (l' : List (List Int)), 0 ≤ z ∧ Ev (fun k => laws_markGate.f k c l 1) (z, c', l') ∧ Ev (fun k => laws_heldGate.f k c' l' 1) z := by
 obtain ⟨c', m1, m2⟩ := markIntS c (by omega) 1 (by omega) (by omega)
 obtain ⟨z, l', _, _, e3, e4, e5⟩ := markIntSS_at l.length 0 l (1 + c.length) (by omega) hl (by omega) (by omega) (fun x h => hx x (by simpa using h))
 unfold laws_markGate.f laws_heldGate.f laws_markIntSS.f laws_heldIntSS.f
 exact ⟨z, c', l', by omega, Ev.bind m1 (Ev.bind e4 (Ev.now _)), Ev.bind m2 (Ev.neg (by omega) (Ev.bind e5 (Ev.neg (by omega) (Ev.now _))))⟩
theorem markGateB (c : List Int) (l : List (List Int)) (hc : c.length ≤ 1048576) (hl : l.length ≤ 1048576) (hx : ∀ x ∈ l, x.length ≤ 1048576) : ∃ (z : Int) (c' : List Int) (l' : List (List Int)), (0 ≤ z ∧ z ≤ 2000000000000) ∧ Ev (fun k => laws_markGate.f k c l 1) (z, c', l') ∧ Ev (fun k => laws_heldGate.f k c' l' 1) z := by
 obtain ⟨c', m1, m2⟩ := markIntS c (by omega) 1 (by omega) (by omega)
 obtain ⟨z, l', _, _, e3, e4, e5⟩ := markIntSS_at l.length 0 l (1 + c.length) (by omega) hl (by omega) (by omega) (fun x h => hx x (by simpa using h))
 unfold laws_markGate.f laws_heldGate.f laws_markIntSS.f laws_heldIntSS.f
 exact ⟨z, c', l', ⟨by omega, by omega⟩, Ev.bind m1 (Ev.bind e4 (Ev.now _)), Ev.bind m2 (Ev.neg (by omega) (Ev.bind e5 (Ev.neg (by omega) (Ev.now _))))⟩
theorem l1In_eq (a b c : Int) : spec_l1In.f a b c = some (decide (b ≤ a ∧ a ≤ c)) := by
 unfold spec_l1In.f
 by_cases h : b ≤ a <;> simp [h]
theorem within_eq (a b c : Int) : impl_within.f a b c = some (decide (b ≤ a ∧ a ≤ c)) := by
 unfold impl_within.f
 by_cases h : b ≤ a <;> simp [h]
theorem has_eq (l : List Int) (hl : l.length ≤ 1000000000) (a : Int) : Ev (fun k => spec_l1Has.f k l a) (decide (a ∈ l)) := by
 unfold spec_l1Has.f
 have main : ∀ d i : Nat, i + d = l.length → Ev (fun k => spec_l1Has.l0 k l a i) (decide (a ∈ l.drop i)) := by
  intro d
  induction d with
  | zero =>
   intro i hi
   exact Ev.step (fun k => spec_l1Has.l0.eq_2 ..) (Ev.neg (by omega) (Ev.eq (Ev.now _) (by simp [List.drop_of_length_le (show l.length ≤ i by omega)])))
  | succ d ih =>
   intro i hi
   have w1 : wrap64 ((i : Int) + 1) = ((i + 1 : Nat) : Int) := by rw [w64 (by omega) (by omega)]; rfl
   have e : rd l (i : Int) = l[i]'(by omega) := by
    unfold rd
    rw [Int.toNat_natCast]
    exact getD_of (List.getElem?_eq_getElem (by omega))
   refine Ev.step (fun k => spec_l1Has.l0.eq_2 ..) (Ev.pos (by omega) (Ev.pos (by omega) ?_))
   rw [e, w1, List.drop_eq_getElem_cons (by omega)]
   by_cases c : l[i]'(by omega) = a
   ·exact Ev.pos c (Ev.eq (Ev.now _) (decide_eq_true (List.mem_cons.2 (Or.inl c.symm))).symm)
   ·refine Ev.neg c (Ev.eq (ih (i + 1) (by omega)) ?_)
    have : ¬ a = l[i]'(by omega) := fun h => c h.symm
    exact decide_eq_decide.2 ⟨fun h => List.mem_cons_of_mem _ h, fun h => (List.mem_cons.1 h).resolve_left this⟩
 exact main l.length 0 (by omega)
theorem slotMem (sl : List (List Int)) (j : Nat) (h : j < sl.length) : rd_L1 sl j ∈ sl := by
 unfold rd_L1
 rw [Int.toNat_natCast, getD_of (List.getElem?_eq_getElem h)]
 exact List.getElem_mem h
theorem rd_mem (s : List Int) (j : Nat) (h : j < s.length) : rd s j ∈ s := by
 unfold rd
 rw [Int.toNat_natCast, getD_of (List.getElem?_eq_getElem h)]
 exact List.getElem_mem h
theorem mem_rd (s : List Int) (x : Int) (h : x ∈ s) : ∃ j : Nat, j < s.length ∧ rd s j = x := by
 obtain ⟨j, hj, rfl⟩ := List.getElem_of_mem h
 refine ⟨j, hj, ?_⟩
 unfold rd
 rw [Int.toNat_natCast]
 exact getD_of (List.getElem?_eq_getElem hj)
theorem find18 (c : List Int) (sl : List (List Int)) (hs : sl.length ≤ 1048577) (hx : ∀ x ∈ sl, x.length ≤ 1048577) (v : Int) : ∀ d i : Nat, i + d = sl.length → ∃ t : Int, Ev (fun k => spec_l18Find.l0 k v i c sl) t ∧
  ((t = -1 ∧ ∀ j : Nat, i ≤ j → j < sl.length → v ∉ rd_L1 sl j) ∨ ∃ m : Nat, t = m ∧ i ≤ m ∧ m < sl.length ∧ v ∈ rd_L1 sl m ∧ ∀ j : Nat, i ≤ j → j < m → v ∉ rd_L1 sl j) := by
 intro d
 induction d with
 | zero =>
  intro i hi
  exact ⟨-1, Ev.step (fun k => spec_l18Find.l0.eq_2 ..) (Ev.neg (by omega) (Ev.now _)), .inl ⟨rfl, fun j h1 h2 => absurd h2 (by omega)⟩⟩
 | succ d ih =>
  intro i hi
  have li : (i : Int) < sl.length := by omega
  have i0 : (0 : Int) ≤ i := by omega
  have w1 : wrap64 ((i : Int) + 1) = ((i + 1 : Nat) : Int) := by rw [w64 (by omega) (by omega)]; rfl
  have hl := hx _ (slotMem sl i (by omega))
  have ha := has_eq (rd_L1 sl i) (by omega) v
  have pre : ∀ r, Ev _ r → Ev (fun k => spec_l18Find.l0 k v i c sl) r := fun r hr => Ev.step (fun k => spec_l18Find.l0.eq_2 ..) (Ev.pos li (Ev.pos i0 (Ev.bind ha hr)))
  by_cases q : v ∈ rd_L1 sl i
  ·exact ⟨i, pre _ (Ev.pos (decide_eq_true q) (Ev.now _)), .inr ⟨i, rfl, Nat.le_refl _, by omega, q, fun j h1 h2 => absurd h2 (by omega)⟩⟩
  ·obtain ⟨t, h1, h2⟩ := ih (i + 1) (by omega)
   have ex : ∀ j : Nat, i ≤ j → (i + 1 ≤ j → v ∉ rd_L1 sl j) → v ∉ rd_L1 sl j := by
    intro j j1 h
    rcases Nat.lt_or_ge i j with g | g
    ·exact h g
    ·obtain rfl : j = i := by omega
     exact q
   rw [← w1] at h1
   refine ⟨t, pre _ (Ev.neg (fun h => q (of_decide_eq_true h)) h1), ?_⟩
   rcases h2 with ⟨rfl, h2⟩ | ⟨m, rfl, m1, m2, m3, m4⟩
   ·exact .inl ⟨rfl, fun j j1 j2 => ex j j1 (fun g => h2 j g j2)⟩
   ·exact .inr ⟨m, rfl, by omega, m2, m3, fun j j1 j2 => ex j j1 (fun g => m4 j g j2)⟩
theorem find18_at (c : List Int) (sl : List (List Int)) (hs : sl.length ≤ 1048577) (hx : ∀ x ∈ sl, x.length ≤ 1048577) (v : Int) (i : Nat) (hi : i < sl.length) (hv : v ∈ rd_L1 sl i) : ∃ t : Int, Ev (fun k => spec_l18Find.f k c sl v) t ∧ (t = i ↔ ¬ ∃ j : Nat, j < i ∧ v ∈ rd_L1 sl j) := by
 obtain ⟨t, h1, h2⟩ := find18 c sl hs hx v sl.length 0 (by omega)
 refine ⟨t, by unfold spec_l18Find.f; exact h1, ?_⟩
 rcases h2 with ⟨rfl, h2⟩ | ⟨m, rfl, m1, m2, m3, m4⟩
 ·exact absurd hv (h2 i (by omega) hi)
 ·constructor
  ·intro e ⟨j, j1, j2⟩
   exact m4 j (by omega) (by omega) j2
  ·intro h
   rcases Nat.lt_trichotomy m i with q | q | q
   ·exact absurd ⟨m, q, m3⟩ h
   ·omega
   ·exact absurd hv (m4 i (by omega) q)
theorem wf99 {x : Int} (h : 1 ≤ x ∧ x ≤ 99) : (Lit.int .i64 x).wf = true := by
 simp [Lit.wf, IntKind.min, IntKind.max, IntKind.signed, IntKind.bits]
 omega
theorem gateInner (c : List Int) (sl : List (List Int)) (hs : sl.length ≤ 1048577) (hx : ∀ x ∈ sl, x.length ≤ 1048577) (R : Prop) (i : Nat) (hi : i < sl.length) (L : Nat) (hL : L ≤ 100) (hn : (rd_L1 sl i).length ≤ 6)
  (cont : ∀ seen : List Int, seen.length = L + (rd_L1 sl i).length → (∀ x, x ∈ seen ↔ ∃ j : Nat, j < i + 1 ∧ x ∈ rd_L1 sl j) → ∃ b : Bool, Ev (fun k => spec_l18Good.l0 k ((L + (rd_L1 sl i).length : Nat) : Int) ((i + 1 : Nat) : Int) c sl) b ∧ Ev (fun k => impl_IsValidGate.l0 k seen sl sl.length ((i + 1 : Nat) : Int) c sl) b ∧ (b = true → R)) :
  ∀ d j : Nat, j + d = (rd_L1 sl i).length → ∀ seen : List Int, seen.length = L + j → (∀ x, x ∈ seen ↔ (∃ p : Nat, p < i ∧ x ∈ rd_L1 sl p) ∨ ∃ p : Nat, p < j ∧ rd (rd_L1 sl i) p = x) → (∀ p : Nat, p < j → rd (rd_L1 sl i) p ≤ rd (rd_L1 sl i) ((j : Int) - 1)) →
  ∃ b : Bool, Ev (fun k => spec_l18Good.l1 k L i (rd_L1 sl i) j c sl) b ∧ Ev (fun k => impl_IsValidGate.l1 k seen (rd_L1 sl i) sl sl.length i (rd_L1 sl i) (rd_L1 sl i).length j c sl) b ∧ (b = true → R ∧ ∀ p : Nat, j ≤ p → p < (rd_L1 sl i).length → 1 ≤ rd (rd_L1 sl i) p ∧ rd (rd_L1 sl i) p ≤ 99) := by
 generalize hsi : rd_L1 sl i = s at *
 intro d
 induction d with
 | zero =>
  intro j hj seen hlen hmem hasc
  obtain rfl : j = s.length := by omega
  have w1 : wrap64 ((i : Int) + 1) = ((i + 1 : Nat) : Int) := by rw [w64 (by omega) (by omega)]; rfl
  have w2 : wrap64 ((L : Int) + (s.length : Int)) = ((L + s.length : Nat) : Int) := by rw [w64 (by omega) (by omega)]; rfl
  obtain ⟨b, b1, b2, b3⟩ := cont seen hlen (fun x => (hmem x).trans ⟨fun h => by
   rcases h with ⟨p, p1, p2⟩ | ⟨p, p1, p2⟩
   ·exact ⟨p, by omega, p2⟩
   ·exact ⟨i, by omega, by rw [hsi, ← p2]; exact rd_mem s p p1⟩, fun ⟨p, p1, p2⟩ => by
   rcases Nat.lt_or_ge p i with q | q
   ·exact .inl ⟨p, q, p2⟩
   ·obtain rfl : p = i := by omega
    rw [hsi] at p2
    exact .inr (mem_rd s x p2)⟩)
  rw [← w1, ← w2] at b1
  rw [← w1] at b2
  exact ⟨b, Ev.step (fun k => spec_l18Good.l1.eq_2 ..) (Ev.neg (by omega) b1), Ev.step (fun k => impl_IsValidGate.l1.eq_2 ..) (Ev.neg (by omega) b2), fun h => ⟨b3 h, fun p h1 h2 => absurd h2 (by omega)⟩⟩
 | succ d ih =>
  intro j hj seen hlen hmem hasc
  have lj : (j : Int) < s.length := by omega
  have j0 : (0 : Int) ≤ j := by omega
  have w1 : wrap64 ((j : Int) + 1) = ((j + 1 : Nat) : Int) := by rw [w64 (by omega) (by omega)]; rfl
  have vin : rd s j ∈ s := rd_mem s j (by omega)
  have S : ∀ r, Ev _ r → Ev (fun k => spec_l18Good.l1 k L i s j c sl) r := fun r hr => Ev.step (fun k => spec_l18Good.l1.eq_2 ..) (Ev.pos lj (Ev.pos j0 (Ev.const (l1In_eq _ _ _) hr)))
  have I : ∀ r, Ev _ r → Ev (fun k => impl_IsValidGate.l1 k seen s sl sl.length i s s.length j c sl) r := fun r hr => Ev.step (fun k => impl_IsValidGate.l1.eq_2 ..) (Ev.pos lj (Ev.pos j0 (Ev.pos lj (Ev.const (within_eq _ _ _) hr))))
  by_cases c1 : 1 ≤ rd s j ∧ rd s j ≤ 99
  ·have lk : klook.f seen (rd s j) = some (decide (rd s j ∈ seen)) := by unfold klook.f; rw [if_pos (wf99 c1)]
   have pt : rd s j ∉ seen → kput.f seen (rd s j) = some (seen ++ [rd s j]) := fun h => by unfold kput.f; rw [if_pos ⟨wf99 c1, by omega⟩, if_neg h]
   obtain ⟨t, t1, t2⟩ := find18_at c sl hs hx (rd s j) i hi (by rw [hsi]; exact vin)
   have go : ∀ (up : ∀ p : Nat, p < j → rd s p < rd s j) (no : ¬ ∃ p : Nat, p < i ∧ rd s j ∈ rd_L1 sl p), rd s j ∉ seen ∧ ∃ b : Bool, Ev (fun k => spec_l18Good.l1 k L i s (wrap64 ((j : Int) + 1)) c sl) b ∧ Ev (fun k => impl_IsValidGate.l1 k (seen ++ [rd s j]) s sl sl.length i s s.length (wrap64 ((j : Int) + 1)) c sl) b ∧ (b = true → R ∧ ∀ p : Nat, j + 1 ≤ p → p < s.length → 1 ≤ rd s p ∧ rd s p ≤ 99) := by
    intro up no
    refine ⟨fun h => ?_, ?_⟩
    ·rcases (hmem _).1 h with h | ⟨p, p1, p2⟩
     ·exact no h
     ·have := up p p1
      omega
    ·rw [w1]
     refine ih (j + 1) (by omega) (seen ++ [rd s j]) (by simp; omega) (fun x => ?_) (fun p hp => ?_)
     ·rw [List.mem_append, List.mem_singleton, hmem x]
      constructor
      ·rintro ((h | ⟨p, p1, p2⟩) | rfl)
       ·exact .inl h
       ·exact .inr ⟨p, by omega, p2⟩
       ·exact .inr ⟨j, by omega, rfl⟩
      ·rintro (h | ⟨p, p1, p2⟩)
       ·exact .inl (.inl h)
       ·rcases Nat.lt_or_ge p j with q | q
        ·exact .inl (.inr ⟨p, q, p2⟩)
        ·obtain rfl : p = j := by omega
         exact .inr p2.symm
     ·have e : (((j + 1 : Nat) : Int) - 1) = (j : Int) := by omega
      rw [e]
      rcases Nat.lt_or_ge p j with q | q
      ·exact Int.le_of_lt (up p q)
      ·obtain rfl : p = j := by omega
       exact Int.le_refl _
   have all : ∀ b : Bool, (b = true → R ∧ ∀ p : Nat, j + 1 ≤ p → p < s.length → 1 ≤ rd s p ∧ rd s p ≤ 99) → (b = true → R ∧ ∀ p : Nat, j ≤ p → p < s.length → 1 ≤ rd s p ∧ rd s p ≤ 99) := fun b g3 h => ⟨(g3 h).1, fun p h1 h2 => by
    rcases Nat.lt_or_ge j p with q | q
    ·exact (g3 h).2 p q h2
    ·obtain rfl : p = j := by omega
     exact c1⟩
   by_cases cj : (j : Int) > 0
   ·have wj : wrap64 ((j : Int) - 1) = (j : Int) - 1 := w64 (by omega) (by omega)
    have b0 : (0 : Int) ≤ (j : Int) - 1 := by omega
    have b1 : (j : Int) - 1 < s.length := by omega
    by_cases ca : rd s ((j : Int) - 1) ≥ rd s j
    ·refine ⟨false, S _ (Ev.pos (decide_eq_true c1) (Ev.pos cj ?_)), I _ (Ev.pos (decide_eq_true c1) (Ev.const lk ?_)), fun h => by cases h⟩
     ·rw [wj]
      exact Ev.pos b0 (Ev.pos b1 (Ev.pos ca (Ev.now _)))
     ·refine Ev.ite (fun _ => Ev.now _) (fun _ => Ev.pos cj ?_)
      rw [wj]
      exact Ev.pos b0 (Ev.pos b1 (Ev.pos ca (Ev.now _)))
    ·have up : ∀ p : Nat, p < j → rd s p < rd s j := fun p hp => by
      have := hasc p hp
      omega
     by_cases cf : ∃ p : Nat, p < i ∧ rd s j ∈ rd_L1 sl p
     ·have cs : rd s j ∈ seen := (hmem _).2 (.inl cf)
      have ct : ¬ t = (i : Int) := fun h => t2.1 h cf
      refine ⟨false, S _ (Ev.pos (decide_eq_true c1) (Ev.pos cj ?_)), I _ (Ev.pos (decide_eq_true c1) (Ev.const lk (Ev.pos (decide_eq_true cs) (Ev.now _)))), fun h => by cases h⟩
      rw [wj]
      exact Ev.pos b0 (Ev.pos b1 (Ev.neg ca (Ev.bind t1 (Ev.neg ct (Ev.now _)))))
     ·obtain ⟨ns, b, g1, g2, g3⟩ := go up cf
      have ct : t = (i : Int) := t2.2 cf
      refine ⟨b, S _ (Ev.pos (decide_eq_true c1) (Ev.pos cj ?_)), I _ (Ev.pos (decide_eq_true c1) (Ev.const lk (Ev.neg (fun h => ns (of_decide_eq_true h)) (Ev.pos cj ?_)))), all b g3⟩
      ·rw [wj]
       exact Ev.pos b0 (Ev.pos b1 (Ev.neg ca (Ev.bind t1 (Ev.pos ct g1))))
      ·rw [wj]
       exact Ev.pos b0 (Ev.pos b1 (Ev.neg ca (Ev.const (pt ns) g2)))
   ·have up : ∀ p : Nat, p < j → rd s p < rd s j := fun p hp => by omega
    by_cases cf : ∃ p : Nat, p < i ∧ rd s j ∈ rd_L1 sl p
    ·have cs : rd s j ∈ seen := (hmem _).2 (.inl cf)
     have ct : ¬ t = (i : Int) := fun h => t2.1 h cf
     exact ⟨false, S _ (Ev.pos (decide_eq_true c1) (Ev.neg cj (Ev.bind t1 (Ev.neg ct (Ev.now _))))), I _ (Ev.pos (decide_eq_true c1) (Ev.const lk (Ev.pos (decide_eq_true cs) (Ev.now _)))), fun h => by cases h⟩
    ·obtain ⟨ns, b, g1, g2, g3⟩ := go up cf
     have ct : t = (i : Int) := t2.2 cf
     exact ⟨b, S _ (Ev.pos (decide_eq_true c1) (Ev.neg cj (Ev.bind t1 (Ev.pos ct g1)))), I _ (Ev.pos (decide_eq_true c1) (Ev.const lk (Ev.neg (fun h => ns (of_decide_eq_true h)) (Ev.neg cj (Ev.const (pt ns) g2))))), all b g3⟩
  ·exact ⟨false, S _ (Ev.neg (fun h => c1 (of_decide_eq_true h)) (Ev.now _)), I _ (Ev.neg (fun h => c1 (of_decide_eq_true h)) (Ev.now _)), fun h => by cases h⟩
def Room (c : List Int) (sl : List (List Int)) (i : Nat) : Prop := ∀ j : Nat, i ≤ j → j < sl.length → (0 ≤ rd c j ∧ rd c j ≤ 6) ∧ ((rd_L1 sl j).length : Int) ≤ rd c j ∧ ∀ x, x ∈ rd_L1 sl j → 1 ≤ x ∧ x ≤ 99
theorem gateOuter (c : List Int) (sl : List (List Int)) (hs : sl.length ≤ 12) (hc : c.length = sl.length) (hx : ∀ x ∈ sl, x.length ≤ 1048577) : ∀ d i : Nat, i + d = sl.length → ∀ (seen : List Int) (L : Nat), L ≤ 6 * i → seen.length = L → (∀ x, x ∈ seen ↔ ∃ j : Nat, j < i ∧ x ∈ rd_L1 sl j) →
  ∃ b : Bool, Ev (fun k => spec_l18Good.l0 k L i c sl) b ∧ Ev (fun k => impl_IsValidGate.l0 k seen sl sl.length i c sl) b ∧ (b = true → Room c sl i) := by
 intro d
 induction d with
 | zero =>
  intro i hi seen L hL hlen hmem
  refine ⟨decide ((L : Int) ≤ 30), Ev.step (fun k => spec_l18Good.l0.eq_2 ..) (Ev.neg (by omega) (Ev.now _)), Ev.step (fun k => impl_IsValidGate.l0.eq_2 ..) (Ev.neg (by omega) (Ev.const (show klen.f seen = some (seen.length : Int) from rfl) (Ev.eq (Ev.now _) ?_))), fun _ j h1 h2 => absurd h2 (by omega)⟩
  rw [hlen]
 | succ d ih =>
  intro i hi seen L hL hlen hmem
  have li : (i : Int) < sl.length := by omega
  have lc : (i : Int) < c.length := by omega
  have i0 : (0 : Int) ≤ i := by omega
  have S : ∀ r, Ev _ r → Ev (fun k => spec_l18Good.l0 k L i c sl) r := fun r hr => Ev.step (fun k => spec_l18Good.l0.eq_2 ..) (Ev.pos li (Ev.pos i0 (Ev.pos lc (Ev.const (l1In_eq _ _ _) hr))))
  have I : ∀ r, Ev _ r → Ev (fun k => impl_IsValidGate.l0 k seen sl sl.length i c sl) r := fun r hr => Ev.step (fun k => impl_IsValidGate.l0.eq_2 ..) (Ev.pos li (Ev.pos i0 (Ev.pos li (Ev.pos lc (Ev.const (within_eq _ _ _) hr)))))
  have sj : ∀ z : Bool, z = true → Ev (fun k => spec_l18Good.j2 k L i (rd_L1 sl i) z c sl) false := fun z hz => Ev.step (fun k => spec_l18Good.j2.eq_2 ..) (Ev.pos hz (Ev.now _))
  have ij : ∀ z : Bool, z = true → Ev (fun k => impl_IsValidGate.j2 k seen (rd_L1 sl i) sl sl.length i z c sl) false := fun z hz => Ev.step (fun k => impl_IsValidGate.j2.eq_2 ..) (Ev.pos hz (Ev.now _))
  by_cases c1 : 0 ≤ rd c i ∧ rd c i ≤ 6
  ·by_cases c2 : ((rd_L1 sl i).length : Int) > rd c i
   ·exact ⟨false, S _ (Ev.pos (decide_eq_true c1) (sj _ (decide_eq_true c2))), I _ (Ev.pos (decide_eq_true c1) (ij _ (decide_eq_true c2))), fun h => by cases h⟩
   ·obtain ⟨b, b1, b2, b3⟩ := gateInner c sl (by omega) hx (Room c sl (i + 1)) i (by omega) L (by omega) (by omega) (fun seen' h1 h2 => ih (i + 1) (by omega) seen' _ (by omega) h1 h2) (rd_L1 sl i).length 0 (by omega) seen (by omega) (fun x => (hmem x).trans ⟨.inl, fun h => by
     rcases h with h | ⟨p, p1, _⟩
     ·exact h
     ·omega⟩) (fun p hp => by omega)
    refine ⟨b, S _ (Ev.pos (decide_eq_true c1) (Ev.step (fun k => spec_l18Good.j2.eq_2 ..) (Ev.neg (fun h => c2 (of_decide_eq_true h)) b1))), I _ (Ev.pos (decide_eq_true c1) (Ev.step (fun k => impl_IsValidGate.j2.eq_2 ..) (Ev.neg (fun h => c2 (of_decide_eq_true h)) b2))), fun h j h1 h2 => ?_⟩
    rcases Nat.lt_or_ge i j with q | q
    ·exact (b3 h).1 j q h2
    ·obtain rfl : j = i := by omega
     refine ⟨c1, by omega, fun x hxm => ?_⟩
     obtain ⟨p, p1, p2⟩ := mem_rd _ x hxm
     rw [← p2]
     exact (b3 h).2 p (by omega) p1
  ·exact ⟨false, S _ (Ev.neg (fun h => c1 (of_decide_eq_true h)) (sj _ rfl)), I _ (Ev.neg (fun h => c1 (of_decide_eq_true h)) (ij _ rfl)), fun h => by cases h⟩
theorem gateBoth (c : List Int) (sl : List (List Int)) (hc : c.length ≤ 1048577) (hs : sl.length ≤ 1048577) (hx : ∀ x ∈ sl, x.length ≤ 1048577) : ∃ b : Bool, Ev (fun k => spec_l18Good.f k c sl) b ∧ Ev (fun k => impl_IsValidGate.f k c sl) b ∧ (b = true → 1 ≤ sl.length ∧ sl.length ≤ 12 ∧ c.length = sl.length ∧ Room c sl 0) := by
 unfold spec_l18Good.f impl_IsValidGate.f
 have sj : ∀ z : Bool, z = true → Ev (fun k => spec_l18Good.j0 k z c sl) false := fun z hz => Ev.step (fun k => spec_l18Good.j0.eq_2 ..) (Ev.pos hz (Ev.now _))
 have ij : ∀ z : Bool, z = true → Ev (fun k => impl_IsValidGate.j0 k z c sl) false := fun z hz => Ev.step (fun k => impl_IsValidGate.j0.eq_2 ..) (Ev.pos hz (Ev.now _))
 by_cases c1 : 1 ≤ (c.length : Int) ∧ (c.length : Int) ≤ 12
 ·by_cases c2 : (sl.length : Int) = (c.length : Int)
  ·have ne : ((sl.length : Int) != (c.length : Int)) = false := by rw [c2]; simp
   obtain ⟨b, b1, b2, b3⟩ := gateOuter c sl (by omega) (by omega) hx sl.length 0 (by omega) [] 0 (by omega) rfl (fun x => ⟨fun h => (by cases h), fun ⟨j, h, _⟩ => by omega⟩)
   refine ⟨b, Ev.const (l1In_eq _ _ _) (Ev.pos (decide_eq_true c1) (Ev.step (fun k => spec_l18Good.j0.eq_2 ..) (Ev.neg (by rw [ne]; exact fun h => by cases h) b1))), Ev.const (within_eq _ _ _) (Ev.pos (decide_eq_true c1) (Ev.step (fun k => impl_IsValidGate.j0.eq_2 ..) (Ev.neg (by rw [ne]; exact fun h => by cases h) b2))), fun h => ⟨by omega, by omega, by omega, b3 h⟩⟩
  ·have ne : ((sl.length : Int) != (c.length : Int)) = true := by simp; omega
   exact ⟨false, Ev.const (l1In_eq _ _ _) (Ev.pos (decide_eq_true c1) (sj _ ne)), Ev.const (within_eq _ _ _) (Ev.pos (decide_eq_true c1) (ij _ ne)), fun h => by cases h⟩
 ·exact ⟨false, Ev.const (l1In_eq _ _ _) (Ev.neg (fun h => c1 (of_decide_eq_true h)) (sj _ rfl)), Ev.const (within_eq _ _ _) (Ev.neg (fun h => c1 (of_decide_eq_true h)) (ij _ rfl)), fun h => by cases h⟩
theorem Ev.back {α : Type} {g s : Nat → Option α} {r : α} (e : ∀ k, g (k + 1) = s k) (h : Ev g r) : Ev s r := by
 obtain ⟨K, hK⟩ := h
 exact ⟨K, fun k hk => (e k).symm.trans (hK (k + 1) (by omega))⟩
theorem Ev.backPos {α : Type} {c : Prop} [Decidable c] {A B : Nat → Option α} {r : α} (h : c) (k : Ev (fun n => if c then A n else B n) r) : Ev A r := Ev.congr (fun n => (if_pos h).symm) k
theorem Ev.backNeg {α : Type} {c : Prop} [Decidable c] {A B : Nat → Option α} {r : α} (h : ¬ c) (k : Ev (fun n => if c then A n else B n) r) : Ev B r := Ev.congr (fun n => (if_neg h).symm) k
theorem Ev.backBind {α β : Type} {o : Nat → Option α} {f : Nat → α → Option β} {a : α} {r : β} (h : Ev o a) (k : Ev (fun n => (o n).bind (f n)) r) : Ev (fun n => f n a) r := by
 obtain ⟨A, hA⟩ := h
 obtain ⟨B, hB⟩ := k
 refine ⟨max A B, fun n hn => ?_⟩
 have h2 : (o n).bind (f n) = Option.some r := hB n (by omega)
 rw [hA n (by omega)] at h2
 exact h2
theorem Ev.backConst {α β : Type} {o : Option α} {f : Nat → α → Option β} {a : α} {r : β} (h : o = Option.some a) (k : Ev (fun n => o.bind (f n)) r) : Ev (fun n => f n a) r := Ev.congr (fun n => by rw [h]; rfl) k
theorem Ev.ne {r q : Bool} (h : r ≠ q) (k : Ev (fun _ => Option.some q) r) : False := h (Ev.funct k (Ev.now q))
def AscAt (sl : List (List Int)) (i : Nat) : Prop := (∀ j : Nat, 0 < j → j < (rd_L1 sl i).length → rd (rd_L1 sl i) ((j : Int) - 1) < rd (rd_L1 sl i) j) ∧ ∀ x, x ∈ rd_L1 sl i → ¬ ∃ p : Nat, p < i ∧ x ∈ rd_L1 sl p
theorem ascInner (c : List Int) (sl : List (List Int)) (hs : sl.length ≤ 1048577) (hx : ∀ x ∈ sl, x.length ≤ 1048577) (i : Nat) (hi : i < sl.length) (L : Int) : ∀ d j : Nat, j + d = (rd_L1 sl i).length → Ev (fun k => spec_l18Good.l1 k L i (rd_L1 sl i) j c sl) true →
  (∀ p : Nat, j ≤ p → p < (rd_L1 sl i).length → (0 < p → rd (rd_L1 sl i) ((p : Int) - 1) < rd (rd_L1 sl i) p) ∧ ¬ ∃ q : Nat, q < i ∧ rd (rd_L1 sl i) p ∈ rd_L1 sl q) ∧ Ev (fun k => spec_l18Good.l0 k (wrap64 (L + ((rd_L1 sl i).length : Int))) (wrap64 ((i : Int) + 1)) c sl) true := by
 have hl := hx _ (slotMem sl i hi)
 intro d
 induction d with
 | zero =>
  intro j hj h
  have h1 := Ev.back (fun k => spec_l18Good.l1.eq_2 ..) h
  exact ⟨fun p p1 p2 => absurd p2 (by omega), Ev.backNeg (by omega) h1⟩
 | succ d ih =>
  intro j hj h
  have lj : (j : Int) < (rd_L1 sl i).length := by omega
  have j0 : (0 : Int) ≤ j := by omega
  have h1 := Ev.backConst (l1In_eq _ _ _) (Ev.backPos j0 (Ev.backPos lj (Ev.back (fun k => spec_l18Good.l1.eq_2 ..) h)))
  obtain ⟨t, t1, t2⟩ := find18_at c sl hs hx (rd (rd_L1 sl i) j) i hi (rd_mem _ j (by omega))
  have hb1 : -9223372036854775808 ≤ (j : Int) + 1 := by omega
  have hb2 : (j : Int) + 1 ≤ 9223372036854775807 := by omega
  have hb3 : -9223372036854775808 ≤ (j : Int) - 1 := by omega
  have hb4 : (j : Int) - 1 ≤ 9223372036854775807 := by omega
  have hj1 : j + 1 + d = (rd_L1 sl i).length := by omega
  by_cases cj : (j : Int) > 0
  ·have jb : (0 : Int) ≤ (j : Int) - 1 := by omega
   have jl : (j : Int) - 1 < (rd_L1 sl i).length := by omega
   by_cases c1 : 1 ≤ rd (rd_L1 sl i) j ∧ rd (rd_L1 sl i) j ≤ 99
   ·have h2 := Ev.backPos cj (Ev.backPos (decide_eq_true c1) h1)
    rw [w64 hb3 hb4] at h2
    have h3 := Ev.backPos jl (Ev.backPos jb h2)
    by_cases ca : rd (rd_L1 sl i) ((j : Int) - 1) ≥ rd (rd_L1 sl i) j
    ·exact (Ev.ne (by simp) (Ev.backPos ca h3)).elim
    ·have h4 := Ev.backBind t1 (Ev.backNeg ca h3)
     by_cases ct : t = (i : Int)
     ·have h5 := Ev.backPos ct h4
      rw [w64 hb1 hb2] at h5
      have q := ih (j + 1) hj1 h5
      refine ⟨fun p p1 p2 => ?_, q.2⟩
      rcases Nat.lt_or_ge j p with g | g
      ·exact q.1 p g p2
      ·obtain rfl : p = j := by omega
       exact ⟨fun _ => Int.not_le.1 ca, t2.1 ct⟩
     ·exact (Ev.ne (by simp) (Ev.backNeg ct h4)).elim
   ·exact (Ev.ne (by simp) (Ev.backNeg (fun h => c1 (of_decide_eq_true h)) h1)).elim
  ·by_cases c1 : 1 ≤ rd (rd_L1 sl i) j ∧ rd (rd_L1 sl i) j ≤ 99
   ·have h4 := Ev.backBind t1 (Ev.backNeg cj (Ev.backPos (decide_eq_true c1) h1))
    by_cases ct : t = (i : Int)
    ·have h5 := Ev.backPos ct h4
     rw [w64 hb1 hb2] at h5
     have q := ih (j + 1) hj1 h5
     refine ⟨fun p p1 p2 => ?_, q.2⟩
     rcases Nat.lt_or_ge j p with g | g
     ·exact q.1 p g p2
     ·obtain rfl : p = j := by omega
      exact ⟨fun h => absurd h (by omega), t2.1 ct⟩
    ·exact (Ev.ne (by simp) (Ev.backNeg ct h4)).elim
   ·exact (Ev.ne (by simp) (Ev.backNeg (fun h => c1 (of_decide_eq_true h)) h1)).elim
theorem ascOuter (c : List Int) (sl : List (List Int)) (hs : sl.length ≤ 12) (hc : c.length = sl.length) (hx : ∀ x ∈ sl, x.length ≤ 1048577) : ∀ d i : Nat, i + d = sl.length → ∀ L : Int, Ev (fun k => spec_l18Good.l0 k L i c sl) true → ∀ j : Nat, i ≤ j → j < sl.length → AscAt sl j := by
 intro d
 induction d with
 | zero => exact fun i hi L _ j j1 j2 => absurd j2 (by omega)
 | succ d ih =>
  intro i hi L h j j1 j2
  have li : (i : Int) < sl.length := by omega
  have lc : (i : Int) < c.length := by omega
  have i0 : (0 : Int) ≤ i := by omega
  have hb1 : -9223372036854775808 ≤ (i : Int) + 1 := by omega
  have hb2 : (i : Int) + 1 ≤ 9223372036854775807 := by omega
  have il : i < sl.length := by omega
  have hd : i + 1 + d = sl.length := by omega
  have h1 := Ev.backConst (l1In_eq _ _ _) (Ev.backPos lc (Ev.backPos i0 (Ev.backPos li (Ev.back (fun k => spec_l18Good.l0.eq_2 ..) h))))
  have sj : ∀ z : Bool, z = true → Ev (fun k => spec_l18Good.j2 k L i (rd_L1 sl i) z c sl) true → False := fun z hz q => Ev.ne (by simp) (Ev.backPos hz (Ev.back (fun k => spec_l18Good.j2.eq_2 ..) q))
  by_cases c1 : 0 ≤ rd c i ∧ rd c i ≤ 6
  ·have h2 := Ev.backPos (decide_eq_true c1) h1
   by_cases c2 : ((rd_L1 sl i).length : Int) > rd c i
   ·exact (sj _ (decide_eq_true c2) h2).elim
   ·have h3 := Ev.backNeg (fun h => c2 (of_decide_eq_true h)) (Ev.back (fun k => spec_l18Good.j2.eq_2 ..) h2)
    obtain ⟨a, b⟩ := ascInner c sl (by omega) hx i il L (rd_L1 sl i).length 0 (by omega) h3
    rw [w64 hb1 hb2] at b
    rcases Nat.lt_or_ge i j with g | g
    ·exact ih (i + 1) hd _ b j g j2
    ·obtain rfl : j = i := by omega
     refine ⟨fun p p1 p2 => (a p (by omega) p2).1 p1, fun x hxm => ?_⟩
     obtain ⟨p, p1, p2⟩ := mem_rd _ x hxm
     rw [← p2]
     exact (a p (by omega) p1).2
  ·exact (sj _ rfl (Ev.backNeg (fun h => c1 (of_decide_eq_true h)) h1)).elim
theorem goodAsc (c : List Int) (sl : List (List Int)) (hs : sl.length ≤ 12) (hc : c.length = sl.length) (hx : ∀ x ∈ sl, x.length ≤ 1048577) (h : Ev (fun k => spec_l18Good.f k c sl) true) : ∀ j : Nat, j < sl.length → AscAt sl j := by
 unfold spec_l18Good.f at h
 have sj : ∀ z : Bool, z = true → Ev (fun k => spec_l18Good.j0 k z c sl) true → False := fun z hz q => Ev.ne (by simp) (Ev.backPos hz (Ev.back (fun k => spec_l18Good.j0.eq_2 ..) q))
 have h1 := Ev.backConst (l1In_eq _ _ _) h
 have ne : ((sl.length : Int) != (c.length : Int)) = false := by rw [hc]; simp
 intro j hj
 by_cases c1 : 1 ≤ (c.length : Int) ∧ (c.length : Int) ≤ 12
 ·have h2 := Ev.backPos (decide_eq_true c1) h1
  rw [ne] at h2
  exact ascOuter c sl hs hc hx sl.length 0 (by omega) 0 (Ev.backNeg (by simp) (Ev.back (fun k => spec_l18Good.j0.eq_2 ..) h2)) j (Nat.zero_le _) hj
 ·exact (sj _ rfl (Ev.backNeg (fun h => c1 (of_decide_eq_true h)) h1)).elim
theorem rising (s : List Int) (h : ∀ j : Nat, 0 < j → j < s.length → rd s ((j : Int) - 1) < rd s j) : s.Pairwise (· < ·) := by
 rw [List.pairwise_iff_getElem]
 have get : ∀ j : Nat, (hj : j < s.length) → rd s j = s[j] := fun j hj => by
  unfold rd
  rw [Int.toNat_natCast]
  exact getD_of (List.getElem?_eq_getElem hj)
 have main : ∀ d i : Nat, (h1 : i < s.length) → (h2 : i + 1 + d < s.length) → s[i] < s[i + 1 + d] := by
  intro d
  induction d with
  | zero =>
   intro i h1 h2
   have := h (i + 1) (by omega) h2
   rw [show (((i + 1 : Nat) : Int) - 1) = (i : Int) by omega, get i h1, get (i + 1) h2] at this
   exact this
  | succ d ih =>
   intro i h1 h2
   have a := ih i h1 (by omega)
   have b := h (i + 1 + (d + 1)) (by omega) h2
   rw [show (((i + 1 + (d + 1) : Nat) : Int) - 1) = ((i + 1 + d : Nat) : Int) by omega, get _ (by omega), get _ h2] at b
   exact Int.lt_trans a b
 intro i j hi hj hij
 obtain ⟨d, rfl⟩ : ∃ d, j = i + 1 + d := ⟨j - (i + 1), by omega⟩
 exact main d i hi hj
theorem cloneInt (l : List Int) (h : l.length < 17592186044416) : slices_Clone_int.f l = some l := by
 unfold slices_Clone_int.f
 show (if (0 + l.length < 17592186044416) then some ([] ++ l) else none) = _
 rw [if_pos (by omega), List.nil_append]
theorem ownInt (l : List Int) (h : l.length < 17592186044416) : spec_l1Own.f l = some l := by
 unfold spec_l1Own.f
 show (if (0 + l.length < 17592186044416) then some ([] ++ l) else none) = _
 rw [if_pos (by omega), List.nil_append]
theorem slotAt (sl : List (List Int)) (i : Nat) (h : i < sl.length) : rd_L1 sl i = sl[i] := by
 unfold rd_L1
 rw [Int.toNat_natCast]
 exact getD_of (List.getElem?_eq_getElem h)
theorem implOwnGate (c : List Int) (sl : List (List Int)) (hc : c.length ≤ 1048577) (hs : sl.length ≤ 1048577) (hx : ∀ x ∈ sl, x.length ≤ 1048577) : Ev (fun k => impl_ownGate.f k c sl) (c, sl) := by
 unfold impl_ownGate.f
 have main : ∀ d i : Nat, i + d = sl.length → Ev (fun k => impl_ownGate.l0 k sl sl.length i c (sl.take i)) (c, sl) := by
  intro d
  induction d with
  | zero =>
   intro i hi
   obtain rfl : i = sl.length := by omega
   exact Ev.step (fun k => impl_ownGate.l0.eq_2 ..) (Ev.neg (by omega) (Ev.eq (Ev.now _) (by rw [List.take_length])))
  | succ d ih =>
   intro i hi
   have li : i < sl.length := by omega
   have lt : (sl.take i).length < 5864062014805 := by rw [List.length_take]; omega
   have hr := hx _ (List.getElem_mem li)
   have cl := cloneInt sl[i] (by omega)
   have l1 : (i : Int) < sl.length := by omega
   have i0 : (0 : Int) ≤ i := by omega
   have w1 : wrap64 ((i : Int) + 1) = ((i + 1 : Nat) : Int) := by rw [w64 (by omega) (by omega)]; rfl
   have := ih (i + 1) (by omega)
   rw [List.take_succ_eq_append_getElem li, ← w1] at this
   refine Ev.step (fun k => impl_ownGate.l0.eq_2 ..) (Ev.pos l1 (Ev.pos i0 (Ev.pos l1 ?_)))
   rw [slotAt sl i li]
   exact Ev.const cl (Ev.pos lt this)
 exact Ev.const (cloneInt c (by omega)) (main sl.length 0 (by omega))
theorem specOwnGate (c : List Int) (sl : List (List Int)) (hc : c.length ≤ 1048577) (hs : sl.length ≤ 1048577) (hx : ∀ x ∈ sl, x.length ≤ 1048577) : Ev (fun k => spec_l18Own.f k c sl) (c, sl) := by
 unfold spec_l18Own.f
 have main : ∀ d i : Nat, i + d = sl.length → Ev (fun k => spec_l18Own.l0 k i c sl c (sl.take i)) (c, sl) := by
  intro d
  induction d with
  | zero =>
   intro i hi
   obtain rfl : i = sl.length := by omega
   exact Ev.step (fun k => spec_l18Own.l0.eq_2 ..) (Ev.neg (by omega) (Ev.eq (Ev.now _) (by rw [List.take_length])))
  | succ d ih =>
   intro i hi
   have li : i < sl.length := by omega
   have lt : (sl.take i).length < 5864062014805 := by rw [List.length_take]; omega
   have hr := hx _ (List.getElem_mem li)
   have cl := ownInt sl[i] (by omega)
   have l1 : (i : Int) < sl.length := by omega
   have i0 : (0 : Int) ≤ i := by omega
   have w1 : wrap64 ((i : Int) + 1) = ((i + 1 : Nat) : Int) := by rw [w64 (by omega) (by omega)]; rfl
   have := ih (i + 1) (by omega)
   rw [List.take_succ_eq_append_getElem li, ← w1] at this
   refine Ev.step (fun k => spec_l18Own.l0.eq_2 ..) (Ev.pos l1 (Ev.pos i0 ?_))
   rw [slotAt sl i li]
   exact Ev.const cl (Ev.pos lt this)
 exact Ev.const (ownInt c (by omega)) (main sl.length 0 (by omega))
def putAt (s : List Int) (v : Int) : List Int := (s ++ [v]).mergeSort fun x y => decide (x ≤ y)
theorem sort_unique (a b : List Int) (ha : a.Pairwise (· ≤ ·)) (hb : b.Pairwise (· ≤ ·)) (h : a.Perm b) : a = b := List.Perm.eq_of_pairwise (fun x y _ _ h1 h2 => Int.le_antisymm h1 h2) ha hb h
theorem putAt_sorted (s : List Int) (v : Int) : (putAt s v).Pairwise (· ≤ ·) := by
 have h := List.pairwise_mergeSort (le := fun x y : Int => decide (x ≤ y)) (fun a b c h1 h2 => decide_eq_true (Int.le_trans (of_decide_eq_true h1) (of_decide_eq_true h2))) (fun a b => by
  rcases Int.le_total a b with q | q
  ·rw [decide_eq_true q]; rfl
  ·rw [decide_eq_true q, Bool.or_true]) (s ++ [v])
 exact h.imp fun q => of_decide_eq_true q
theorem putAt_perm (s : List Int) (v : Int) : (putAt s v).Perm (s ++ [v]) := List.mergeSort_perm _ _
theorem putAt_mem (s : List Int) (v x : Int) : x ∈ putAt s v ↔ x ∈ s ∨ x = v := by
 rw [(putAt_perm s v).mem_iff, List.mem_append, List.mem_singleton]
theorem putAt_len (s : List Int) (v : Int) : (putAt s v).length = s.length + 1 := by rw [(putAt_perm s v).length_eq, List.length_append, List.length_singleton]
theorem rd_get (s : List Int) (j : Nat) (h : j < s.length) : rd s (j : Int) = s[j] := by
 unfold rd
 rw [Int.toNat_natCast]
 exact getD_of (List.getElem?_eq_getElem h)
theorem l1Put_eq (s : List Int) (hs : s.length ≤ 1048577) (hr : s.Pairwise (· < ·)) (v : Int) (hv : v ∉ s) : Ev (fun k => spec_l1Put.f k s v) (putAt s v) := by
 unfold spec_l1Put.f
 have main : ∀ d i : Nat, i + d = s.length → (∀ j : Nat, (h : j < i) → (h2 : j < s.length) → s[j] < v) → Ev (fun k => spec_l1Put.l0 k s v i) (putAt s v) := by
  intro d
  have fin : ∀ i : Nat, i ≤ s.length → (∀ j : Nat, (h : j < i) → (h2 : j < s.length) → s[j] < v) → (∀ j : Nat, i ≤ j → (h2 : j < s.length) → v < s[j]) → s.take i ++ [v] ++ s.drop i = putAt s v := by
   intro i hi h1 h2
   refine sort_unique _ _ ?_ (putAt_sorted s v) ?_
   ·have le : s.Pairwise (· ≤ ·) := hr.imp fun q => Int.le_of_lt q
    have lt : ∀ x ∈ s.take i, x < v := fun x hx => by
     obtain ⟨j, hj, rfl⟩ := List.getElem_of_mem hx
     rw [List.length_take] at hj
     rw [List.getElem_take]
     exact h1 j (by omega) (by omega)
    have gt : ∀ x ∈ s.drop i, v < x := fun x hx => by
     obtain ⟨j, hj, rfl⟩ := List.getElem_of_mem hx
     rw [List.length_drop] at hj
     rw [List.getElem_drop]
     exact h2 (i + j) (by omega) (by omega)
    rw [List.append_assoc, List.pairwise_append, List.singleton_append, List.pairwise_cons]
    refine ⟨le.sublist (List.take_sublist _ _), ⟨fun x hx => Int.le_of_lt (gt x hx), le.sublist (List.drop_sublist _ _)⟩, fun a ha b hb => ?_⟩
    rcases List.mem_cons.1 hb with rfl | hb
    ·exact Int.le_of_lt (lt a ha)
    ·exact Int.le_of_lt (Int.lt_trans (lt a ha) (gt b hb))
   ·refine List.Perm.trans ?_ (putAt_perm s v).symm
    rw [List.append_assoc, List.singleton_append]
    refine List.perm_middle.trans ?_
    rw [List.take_append_drop]
    exact (List.perm_append_comm (l₁ := [v]) (l₂ := s))
  have last : ∀ i : Nat, i ≤ s.length → (∀ j : Nat, (h : j < i) → (h2 : j < s.length) → s[j] < v) → (∀ j : Nat, i ≤ j → (h2 : j < s.length) → v < s[j]) →
    Ev (fun n => (Option.some (([] : List Int) : List Int)).bind fun y194 => (if (i : Int) ≤ (s.length : Int) then (if y194.length + (s.take (i : Int).toNat).length < 17592186044416 then ((Option.some (y194 ++ (s.take (i : Int).toNat) : List Int)).bind fun y198 => ((Option.some (([v] : List Int) : List Int)).bind fun y201 => (if y198.length + y201.length < 17592186044416 then ((Option.some (y198 ++ y201 : List Int)).bind fun y204 => (if y204.length + (s.drop (i : Int).toNat).length < 17592186044416 then (Option.some (y204 ++ (s.drop (i : Int).toNat))) else (none))) else (none)))) else (none)) else (none))) (putAt s v) := by
   intro i hi h1 h2
   refine Ev.some (Ev.pos (by omega) (Ev.pos ?_ (Ev.some (Ev.some (Ev.pos ?_ (Ev.some (Ev.pos ?_ (Ev.eq (Ev.now _) ?_))))))))
   ·simp only [Int.toNat_natCast, List.length_take, List.length_nil]; omega
   ·simp only [Int.toNat_natCast, List.length_take, List.nil_append, List.length_singleton]; omega
   ·simp only [Int.toNat_natCast, List.length_take, List.nil_append, List.length_append, List.length_drop, List.length_singleton]; omega
   ·rw [List.nil_append, Int.toNat_natCast]
    exact fin i hi h1 h2
  induction d with
  | zero =>
   intro i hi h1
   exact Ev.step (fun k => spec_l1Put.l0.eq_2 ..) (Ev.neg (by omega) (last i (by omega) h1 (fun j j1 j2 => absurd j2 (by omega))))
  | succ d ih =>
   intro i hi h1
   have li : i < s.length := by omega
   have li' : (i : Int) < s.length := by omega
   have i0 : (0 : Int) ≤ i := by omega
   have er := rd_get s i li
   have ne : ¬ s[i] = v := fun e => hv (e ▸ List.getElem_mem li)
   by_cases c : s[i] < v
   ·have := ih (i + 1) (by omega) (fun j h h2 => by
     rcases Nat.lt_or_ge j i with g | g
     ·exact h1 j g h2
     ·obtain rfl : j = i := by omega
      exact c)
    have w1 : wrap64 ((i : Int) + 1) = ((i + 1 : Nat) : Int) := by rw [w64 (by omega) (by omega)]; rfl
    rw [← w1] at this
    exact Ev.step (fun k => spec_l1Put.l0.eq_2 ..) (Ev.pos li' (Ev.pos i0 (Ev.pos (by rw [er]; exact c) this)))
   ·refine Ev.step (fun k => spec_l1Put.l0.eq_2 ..) (Ev.pos li' (Ev.pos i0 (Ev.neg (by rw [er]; exact c) (Ev.neg (by rw [er]; exact ne) (last i (by omega) h1 ?_)))))
    intro j j1 j2
    rcases Nat.lt_or_ge i j with g | g
    ·have := (List.pairwise_iff_getElem.1 hr) i j li j2 g
     omega
    ·obtain rfl : j = i := by omega
     omega
 exact main s.length 0 (by omega) (fun j h _ => absurd h (by omega))
theorem putOne (c : List Int) (sl : List (List Int)) (hx : ∀ x ∈ sl, x.length ≤ 1048577) (v : Int) (m : Nat) (hm : m < sl.length) : impl_Gate_put.f c sl v m = some (sl.set m (putAt (sl[m]'hm) v)) := by
 have hl := hx _ (List.getElem_mem hm)
 unfold impl_Gate_put.f
 have e : sl.getD m [] = sl[m]'hm := getD_of (List.getElem?_eq_getElem hm)
 rw [if_pos (by omega), if_pos (by omega), Int.toNat_natCast, e, if_pos (by omega)]
 rfl
theorem put_le (sl : List (List Int)) (hx : ∀ x ∈ sl, x.length ≤ 7) (m : Nat) (hm : m < sl.length) (v : Int) : ∀ x ∈ sl.set m (putAt (sl[m]'hm) v), x.length ≤ 8 := by
 intro x h
 rcases List.mem_or_eq_of_mem_set h with h | h
 ·have := hx x h
  omega
 ·rw [h, putAt_len]
  have := hx _ (List.getElem_mem hm)
  omega
theorem slotsIn (c : List Int) (sl : List (List Int)) (hs : sl.length ≤ 1048577) (q : List Int) (hq : q.length ≤ 1000) : Ev (fun k => slices_ContainsFunc_int.f k q c sl) (!decide (∀ j : Nat, j < q.length → 0 ≤ rd q j ∧ rd q j ≤ (sl.length : Int) - 1)) := by
 unfold slices_ContainsFunc_int.f slices_IndexFunc_int.f
 have wl : wrap64 ((sl.length : Int) - 1) = (sl.length : Int) - 1 := w64 (by omega) (by omega)
 have main : ∀ d i : Nat, i + d = q.length → ∃ t : Int, Ev (fun k => slices_IndexFunc_int.l0 k q q.length i c sl) t ∧ (t ≥ 0 ↔ ¬ ∀ j : Nat, i ≤ j → j < q.length → 0 ≤ rd q j ∧ rd q j ≤ (sl.length : Int) - 1) := by
  intro d
  induction d with
  | zero =>
   intro i hi
   exact ⟨-1, Ev.step (fun k => slices_IndexFunc_int.l0.eq_2 ..) (Ev.neg (by omega) (Ev.now _)), ⟨fun h => absurd h (by omega), fun h => absurd (fun j h1 h2 => absurd h2 (by omega)) h⟩⟩
  | succ d ih =>
   intro i hi
   have li : (i : Int) < q.length := by omega
   have i0 : (0 : Int) ≤ i := by omega
   obtain ⟨t, h1, h2⟩ := ih (i + 1) (by omega)
   have no : impl_isGateFor_1.f (rd q i) c sl = some (!decide (0 ≤ rd q i ∧ rd q i ≤ (sl.length : Int) - 1)) := by
    unfold impl_isGateFor_1.f
    rw [wl, within_eq]
    rfl
   have w1 : wrap64 ((i : Int) + 1) = ((i + 1 : Nat) : Int) := by rw [w64 (by omega) (by omega)]; rfl
   rw [← w1] at h1
   have pre : ∀ r, Ev _ r → Ev (fun k => slices_IndexFunc_int.l0 k q q.length i c sl) r := fun r hr => Ev.step (fun k => slices_IndexFunc_int.l0.eq_2 ..) (Ev.pos li (Ev.pos i0 (Ev.pos li (Ev.const no hr))))
   by_cases cc : 0 ≤ rd q i ∧ rd q i ≤ (sl.length : Int) - 1
   ·refine ⟨t, pre _ (Ev.neg ?_ h1), h2.trans ⟨fun z y => z (fun j j1 j2 => y j (by omega) j2), fun z y => z (fun j j1 j2 => ?_)⟩⟩
    ·rw [decide_eq_true cc]
     exact fun h => by cases h
    ·rcases Nat.lt_or_ge i j with g | g
     ·exact y j g j2
     ·obtain rfl : j = i := by omega
      exact cc
   ·refine ⟨i, pre _ (Ev.pos ?_ (Ev.now _)), ⟨fun _ y => cc (y i (Nat.le_refl _) (by omega)), fun _ => by omega⟩⟩
    rw [decide_eq_false cc]
    rfl
 obtain ⟨t, t1, t2⟩ := main q.length 0 (by omega)
 refine Ev.bind t1 (Ev.eq (Ev.now _) ?_)
 by_cases h : ∀ j : Nat, j < q.length → 0 ≤ rd q j ∧ rd q j ≤ (sl.length : Int) - 1
 ·rw [decide_eq_true h, decide_eq_false (fun z => t2.1 z (fun j _ hj => h j hj))]
  rfl
 ·rw [decide_eq_false h, decide_eq_true (t2.2 (fun z => h (fun j hj => z j (by omega) hj)))]
  rfl
theorem gateFor (c : List Int) (sl : List (List Int)) (hs : sl.length ≤ 1048577) (b : Bool) (hb : Ev (fun k => impl_IsValidGate.f k c sl) b) (v : Int) (q : List Int) (hq : q.length ≤ 1000) :
  Ev (fun k => impl_isGateFor.f k c sl v q) (b && (decide (1 ≤ v ∧ v ≤ 99) && decide (∀ j : Nat, j < q.length → 0 ≤ rd q j ∧ rd q j ≤ (sl.length : Int) - 1))) := by
 unfold impl_isGateFor.f
 refine Ev.bind hb ?_
 cases b with
 | false => exact Ev.neg (by simp) (Ev.now _)
 | true =>
  refine Ev.pos rfl (Ev.const (within_eq _ _ _) ?_)
  by_cases cv : 1 ≤ v ∧ v ≤ 99
  ·refine Ev.pos (decide_eq_true cv) (Ev.bind (slotsIn c sl hs q hq) (Ev.eq (Ev.now _) ?_))
   rw [decide_eq_true cv, Bool.not_not]
   rfl
  ·exact Ev.neg (fun h => cv (of_decide_eq_true h)) (Ev.eq (Ev.now _) (by rw [decide_eq_false cv]; rfl))
theorem specSlot (c : List Int) (sl : List (List Int)) (hs : sl.length ≤ 1048577) (a : Int) : spec_l18Slot.f c sl a = some (decide (0 ≤ a ∧ a ≤ (sl.length : Int) - 1)) := by
 unfold spec_l18Slot.f
 rw [l1In_eq, w64 (by omega) (by omega)]
 rfl
structure Gate18 (c : List Int) (sl : List (List Int)) : Prop where
 len : 1 ≤ sl.length ∧ sl.length ≤ 12
 cap : c.length = sl.length
 room : Room c sl 0
 asc : ∀ j : Nat, j < sl.length → AscAt sl j
theorem Gate18.short {c : List Int} {sl : List (List Int)} (h : Gate18 c sl) : ∀ x ∈ sl, x.length ≤ 6 := by
 intro x hx
 obtain ⟨j, hj, rfl⟩ := List.getElem_of_mem hx
 have := h.room j (by omega) hj
 rw [slotAt sl j hj] at this
 omega
theorem Gate18.rise {c : List Int} {sl : List (List Int)} (h : Gate18 c sl) (j : Nat) (hj : j < sl.length) : (sl[j]'hj).Pairwise (· < ·) := by
 have := (h.asc j hj).1
 rw [slotAt sl j hj] at this
 exact rising _ this
theorem gate18 (c : List Int) (sl : List (List Int)) (hc : c.length ≤ 1048577) (hs : sl.length ≤ 1048577) (hx : ∀ x ∈ sl, x.length ≤ 1048577) : ∃ b : Bool, Ev (fun k => spec_l18Good.f k c sl) b ∧ Ev (fun k => impl_IsValidGate.f k c sl) b ∧ (b = true → Gate18 c sl) := by
 obtain ⟨b, b1, b2, b3⟩ := gateBoth c sl hc hs hx
 refine ⟨b, b1, b2, fun h => ?_⟩
 obtain ⟨h1, h2, h3, h4⟩ := b3 h
 subst h
 exact ⟨⟨h1, h2⟩, h3, h4, goodAsc c sl h2 h3 hx b1⟩
theorem absent {c : List Int} {sl : List (List Int)} {v : Int} (h : ∀ j : Nat, j < sl.length → v ∉ rd_L1 sl j) (m : Nat) (hm : m < sl.length) : v ∉ sl[m]'hm := by
 have := h m hm
 rwa [slotAt sl m hm] at this
theorem outOfRange (c : List Int) (sl : List (List Int)) (v : Int) (hv : ¬ (1 ≤ v ∧ v ≤ 99)) (m : Nat) (hm : m < sl.length) (h : v ∈ sl[m]'hm) : ¬ Gate18 c sl := by
 intro g
 have := (g.room m (Nat.zero_le _) hm).2.2 v (by rw [slotAt sl m hm]; exact h)
 exact hv this
theorem rd1 (a : Int) : ∀ P : Int → Prop, (∀ j : Nat, j < ([a] : List Int).length → P (rd [a] j)) ↔ P a := by
 intro P
 constructor
 ·intro h
  exact h 0 (by simp)
 ·intro h j hj
  obtain rfl : j = 0 := by simp at hj; omega
  exact h
def Best (room : Nat → Prop) (n a : Nat) (b : Int) : Prop := (b = -1 ∧ ∀ i : Nat, i < n → ¬ room i) ∨ ∃ r : Nat, b = r ∧ r < n ∧ room r ∧ ∀ i : Nat, i < n → room i → ((r : Int) - a).natAbs < ((i : Int) - a).natAbs ∨ (((r : Int) - a).natAbs = ((i : Int) - a).natAbs ∧ r ≤ i)
theorem Best.unique {room : Nat → Prop} {n a : Nat} {b1 b2 : Int} (h1 : Best room n a b1) (h2 : Best room n a b2) : b1 = b2 := by
 rcases h1 with ⟨rfl, h1⟩ | ⟨r1, rfl, l1, q1, h1⟩
 ·rcases h2 with ⟨rfl, _⟩ | ⟨r2, rfl, l2, q2, _⟩
  ·rfl
  ·exact absurd q2 (h1 r2 l2)
 ·rcases h2 with ⟨rfl, h2⟩ | ⟨r2, rfl, l2, q2, h2⟩
  ·exact absurd q1 (h2 r1 l1)
  ·have := h1 r2 l2 q2
   have := h2 r1 l1 q1
   omega
def Rm (c : List Int) (s : List (List Int)) (i : Nat) : Prop := ((rd_L1 s i).length : Int) < rd c i
theorem size_eq (i a : Nat) (hi : i ≤ 100) (ha : a ≤ 100) : impl_size.f (wrap64 ((i : Int) - a)) = some (((i : Int) - a).natAbs : Int) := by
 unfold impl_size.f
 have w1 : wrap64 ((i : Int) - a) = (i : Int) - a := w64 (by omega) (by omega)
 have w2 : wrap64 (-((i : Int) - a)) = -((i : Int) - a) := w64 (by omega) (by omega)
 rw [w1, w2]
 unfold mx
 congr 1
 split <;> omega
theorem implPick (c : List Int) (s : List (List Int)) (hn : s.length ≤ 100) (hc : c.length = s.length) (a : Nat) (ha : a < s.length) (lost : List Int) (v : Int) (ts : List Int) (tl x : Int) : ∀ d i : Nat, i + d = s.length → ∀ b : Int, Best (Rm c s) i a b → ∃ b' : Int, Best (Rm c s) s.length a b' ∧
  ∀ q, Ev (fun k => if b' < 0 then (if lost.length < 17592186044416 then (impl_CloseSlot.l0 k a (lost ++ [v]) ts tl (wrap64 (x + 1)) c s) else none) else ((impl_Gate_put.f c s v b').bind fun t => impl_CloseSlot.l0 k a lost ts tl (wrap64 (x + 1)) c t)) q → Ev (fun k => impl_CloseSlot.l1 k a lost v b ts tl x s.length i c s) q := by
 intro d
 induction d with
 | zero =>
  intro i hi b hb
  obtain rfl : i = s.length := by omega
  exact ⟨b, hb, fun q h => Ev.step (fun k => impl_CloseSlot.l1.eq_2 ..) (Ev.neg (by omega) h)⟩
 | succ d ih =>
  intro i hi b hb
  have li : i < s.length := by omega
  have li' : (i : Int) < s.length := by omega
  have lc : (i : Int) < c.length := by omega
  have i0 : (0 : Int) ≤ i := by omega
  have w1 : wrap64 ((i : Int) + 1) = ((i + 1 : Nat) : Int) := by rw [w64 (by omega) (by omega)]; rfl
  by_cases rm : Rm c s i
  ·have pre : ∀ q, Ev _ q → Ev (fun k => impl_CloseSlot.l1 k a lost v b ts tl x s.length i c s) q := fun q h => Ev.step (fun k => impl_CloseSlot.l1.eq_2 ..) (Ev.pos li' (Ev.pos i0 (Ev.pos li' (Ev.pos lc (Ev.pos rm h)))))
   rcases hb with ⟨rfl, hb⟩ | ⟨r, rfl, rl, rr, rh⟩
   ·obtain ⟨b', B, K⟩ := ih (i + 1) (by omega) i (Or.inr ⟨i, rfl, by omega, rm, fun j hj hr => by
     rcases Nat.lt_or_ge j i with g | g
     ·exact absurd hr (hb j g)
     ·obtain rfl : j = i := by omega
      exact Or.inr ⟨rfl, Nat.le_refl _⟩⟩)
    rw [← w1] at K
    exact ⟨b', B, fun q h => pre q (Ev.pos (by omega) (K q h))⟩
   ·have s1 := size_eq i a (by omega) (by omega)
    have s2 := size_eq r a (by omega) (by omega)
    have rn : ¬ ((r : Nat) : Int) < 0 := by omega
    by_cases lt : ((i : Int) - a).natAbs < ((r : Int) - a).natAbs
    ·obtain ⟨b', B, K⟩ := ih (i + 1) (by omega) i (Or.inr ⟨i, rfl, by omega, rm, fun j hj hr => by
      rcases Nat.lt_or_ge j i with g | g
      ·have := rh j g hr
       omega
      ·obtain rfl : j = i := by omega
       exact Or.inr ⟨rfl, Nat.le_refl _⟩⟩)
     rw [← w1] at K
     exact ⟨b', B, fun q h => pre q (Ev.neg rn (Ev.const s1 (Ev.const s2 (Ev.pos (by omega) (K q h)))))⟩
    ·obtain ⟨b', B, K⟩ := ih (i + 1) (by omega) r (Or.inr ⟨r, rfl, by omega, rr, fun j hj hr => by
      rcases Nat.lt_or_ge j i with g | g
      ·exact rh j g hr
      ·obtain rfl : j = i := by omega
       omega⟩)
     rw [← w1] at K
     exact ⟨b', B, fun q h => pre q (Ev.neg rn (Ev.const s1 (Ev.const s2 (Ev.neg (by omega) (K q h)))))⟩
  ·obtain ⟨b', B, K⟩ := ih (i + 1) (by omega) b (by
    rcases hb with ⟨rfl, hb⟩ | ⟨r, rfl, rl, rr, rh⟩
    ·refine Or.inl ⟨rfl, fun j hj hr => ?_⟩
     rcases Nat.lt_or_ge j i with g | g
     ·exact hb j g hr
     ·obtain rfl : j = i := by omega
      exact rm hr
    ·refine Or.inr ⟨r, rfl, by omega, rr, fun j hj hr => ?_⟩
     rcases Nat.lt_or_ge j i with g | g
     ·exact rh j g hr
     ·obtain rfl : j = i := by omega
      exact absurd hr rm)
   rw [← w1] at K
   exact ⟨b', B, fun q h => Ev.step (fun k => impl_CloseSlot.l1.eq_2 ..) (Ev.pos li' (Ev.pos i0 (Ev.pos li' (Ev.pos lc (Ev.neg rm (K q h))))))⟩
theorem specPick (c0 : List Int) (s0 : List (List Int)) (c : List Int) (s : List (List Int)) (hn : s.length ≤ 100) (h0 : s0.length = s.length) (hc : c.length = s.length) (a : Nat) (ha : a < s.length) (lost : List Int) (x : Int) : ∀ m d : Nat, d + m = s.length → 1 ≤ d → ∀ b : Int, (b = -1 ∧ ∀ i : Nat, i < s.length → Rm c s i → d ≤ ((i : Int) - a).natAbs) ∨ (0 ≤ b ∧ Best (Rm c s) s.length a b) → ∃ b' e : Int, Best (Rm c s) s.length a b' ∧
  ∀ q, Ev (fun k => spec_CloseSlot.j3 k a lost x b' e false c0 s0 c s) q → Ev (fun k => spec_CloseSlot.l1 k a lost x b d c0 s0 c s) q := by
 intro m
 induction m with
 | zero =>
  intro d hd d1 b hb
  refine ⟨b, d, ?_, fun q h => Ev.step (fun k => spec_CloseSlot.l1.eq_2 ..) (Ev.neg (by omega) h)⟩
  rcases hb with ⟨rfl, hb⟩ | ⟨_, hb⟩
  ·refine Or.inl ⟨rfl, fun i hi hr => ?_⟩
   have := hb i hi hr
   omega
  ·exact hb
 | succ m ih =>
  intro d hd d1 b hb
  have ld : (d : Int) < s0.length := by omega
  rcases hb with ⟨rfl, hb⟩ | ⟨b0, hb⟩
  ·have wl : wrap64 ((a : Int) - d) = (a : Int) - d := w64 (by omega) (by omega)
   have wr : wrap64 ((a : Int) + d) = (a : Int) + d := w64 (by omega) (by omega)
   have w1 : wrap64 ((d : Int) + 1) = ((d + 1 : Nat) : Int) := by rw [w64 (by omega) (by omega)]; rfl
   have sl := specSlot c0 s0 (by omega) ((a : Int) - d)
   have sr := specSlot c0 s0 (by omega) ((a : Int) + d)
   have right : (∀ i : Nat, i < s.length → Rm c s i → (i : Int) ≠ (a : Int) - d) → ∃ b' e : Int, Best (Rm c s) s.length a b' ∧ ∀ q, Ev (fun k => spec_CloseSlot.j3 k a lost x b' e false c0 s0 c s) q → Ev (fun k => spec_CloseSlot.j4 k a lost x (-1) d false c0 s0 c s) q := by
    intro no
    by_cases inr : 0 ≤ (a : Int) + d ∧ (a : Int) + d ≤ (s0.length : Int) - 1
    ·rw [decide_eq_true inr] at sr
     have l1 : (a : Int) + d < s.length := by omega
     have l2 : (a : Int) + d < c.length := by omega
     by_cases rm : Rm c s (a + d)
     ·obtain ⟨b', e, B, K⟩ := ih (d + 1) (by omega) (by omega) ((a + d : Nat) : Int) (Or.inr ⟨by omega, Or.inr ⟨a + d, rfl, by omega, rm, fun i hi hr => by
       have := hb i hi hr
       have := no i hi hr
       omega⟩⟩)
      refine ⟨b', e, B, fun q h => Ev.step (fun k => spec_CloseSlot.j4.eq_2 ..) (Ev.neg (by simp) ?_)⟩
      rw [wr, w1]
      exact Ev.const sr (Ev.pos rfl (Ev.pos inr.1 (Ev.pos l1 (Ev.pos l2 (Ev.pos rm (K q h))))))
     ·obtain ⟨b', e, B, K⟩ := ih (d + 1) (by omega) (by omega) (-1) (Or.inl ⟨rfl, fun i hi hr => by
       have := hb i hi hr
       have := no i hi hr
       have : i ≠ a + d := fun e => rm (e ▸ hr)
       omega⟩)
      refine ⟨b', e, B, fun q h => Ev.step (fun k => spec_CloseSlot.j4.eq_2 ..) (Ev.neg (by simp) ?_)⟩
      rw [wr, w1]
      exact Ev.const sr (Ev.pos rfl (Ev.pos inr.1 (Ev.pos l1 (Ev.pos l2 (Ev.neg rm (K q h))))))
    ·rw [decide_eq_false inr] at sr
     obtain ⟨b', e, B, K⟩ := ih (d + 1) (by omega) (by omega) (-1) (Or.inl ⟨rfl, fun i hi hr => by
      have := hb i hi hr
      have := no i hi hr
      omega⟩)
     refine ⟨b', e, B, fun q h => Ev.step (fun k => spec_CloseSlot.j4.eq_2 ..) (Ev.neg (by simp) ?_)⟩
     rw [wr, w1]
     exact Ev.const sr (Ev.neg (by simp) (K q h))
   have start : ∀ q, Ev (fun k => spec_CloseSlot.j3 k a lost x (-1) d true c0 s0 c s) q → Ev (fun k => spec_CloseSlot.l1 k a lost x (-1) d c0 s0 c s) q := fun q h => Ev.step (fun k => spec_CloseSlot.l1.eq_2 ..) (Ev.pos ld h)
   by_cases inl : 0 ≤ (a : Int) - d ∧ (a : Int) - d ≤ (s0.length : Int) - 1
   ·rw [decide_eq_true inl] at sl
    obtain ⟨p, hp⟩ := Int.eq_ofNat_of_zero_le inl.1
    have l1 : (a : Int) - d < s.length := by omega
    have l2 : (a : Int) - d < c.length := by omega
    have pre : ∀ (y : Bool) q, decide (((rd_L1 s ((a : Int) - d)).length : Int) < rd c ((a : Int) - d)) = y → Ev (fun k => spec_CloseSlot.j4 k a lost x (-1) d y c0 s0 c s) q → Ev (fun k => spec_CloseSlot.l1 k a lost x (-1) d c0 s0 c s) q := by
     intro y q hy h
     refine start q (Ev.step (fun k => spec_CloseSlot.j3.eq_2 ..) (Ev.pos rfl ?_))
     rw [wl]
     refine Ev.const sl (Ev.pos rfl (Ev.pos inl.1 (Ev.pos l1 (Ev.pos l2 ?_))))
     rw [hy]
     exact h
    by_cases rm : Rm c s p
    ·obtain ⟨b', e, B, K⟩ := ih (d + 1) (by omega) (by omega) p (Or.inr ⟨by omega, Or.inr ⟨p, rfl, by omega, rm, fun i hi hr => by
      have := hb i hi hr
      omega⟩⟩)
     refine ⟨b', e, B, fun q h => pre true q (decide_eq_true (by rw [hp]; exact rm)) (Ev.step (fun k => spec_CloseSlot.j4.eq_2 ..) (Ev.pos rfl ?_))⟩
     rw [wl, w1, hp]
     exact K q h
    ·obtain ⟨b', e, B, K⟩ := right (fun i hi hr e => rm (by
      obtain rfl : i = p := by omega
      exact hr))
     exact ⟨b', e, B, fun q h => pre false q (decide_eq_false (by rw [hp]; exact rm)) (K q h)⟩
   ·rw [decide_eq_false inl] at sl
    obtain ⟨b', e, B, K⟩ := right (fun i hi hr e => inl (by omega))
    refine ⟨b', e, B, fun q h => start q (Ev.step (fun k => spec_CloseSlot.j3.eq_2 ..) (Ev.pos rfl ?_))⟩
    rw [wl]
    exact Ev.const sl (Ev.neg (by simp) (K q h))
  ·refine ⟨b, d, hb, fun q h => Ev.step (fun k => spec_CloseSlot.l1.eq_2 ..) (Ev.pos ld ?_)⟩
   rw [decide_eq_false (show ¬ b < 0 by omega)]
   exact h
theorem putAt_rise (s : List Int) (hr : s.Pairwise (· < ·)) (v : Int) (hv : v ∉ s) : (putAt s v).Pairwise (· < ·) := by
 have nd : (putAt s v).Nodup := by
  rw [(putAt_perm s v).nodup_iff, List.nodup_append]
  refine ⟨hr.imp fun q => by omega, List.pairwise_singleton _ _, fun x hx y hy e => hv ?_⟩
  rw [← List.mem_singleton.1 hy, ← e]
  exact hx
 exact ((putAt_sorted s v).and nd).imp fun q => by have := q.1; have := q.2; omega
structure Placed (sl : List (List Int)) (a k : Nat) (ts : List Int) (s : List (List Int)) : Prop where
 len : s.length = sl.length
 few : ∀ x ∈ s, x.length ≤ 7
 rise : ∀ j : Nat, (h : j < s.length) → (s[j]'h).Pairwise (· < ·)
 from_ : ∀ j : Nat, (h : j < s.length) → ∀ x ∈ s[j]'h, (∃ p : Nat, ∃ hp : p < sl.length, p ≠ a ∧ x ∈ sl[p]'hp) ∨ ∃ q : Nat, ∃ hq : q < ts.length, q < k ∧ x = ts[q]'hq
theorem closeSlot (c : List Int) (sl : List (List Int)) (hc : c.length ≤ 1048576) (hs : sl.length ≤ 1048576) (hx : ∀ x ∈ sl, x.length ≤ 1048576) (a : Int) : ∃ (c' : List Int) (s' : List (List Int)) (l : List Int) (b : Bool), Ev (fun k => spec_CloseSlot.f k c sl a) (c', s', l, b) ∧ Ev (fun k => impl_CloseSlot.f k c sl a) (c', s', l, b) ∧ c'.length ≤ 1048576 ∧ s'.length ≤ 1048576 ∧ (∀ x ∈ s', x.length ≤ 1048576) ∧ l.length ≤ 1048576 := by
 have hx' : ∀ x ∈ sl, x.length ≤ 1048577 := fun x h => by have := hx x h; omega
 obtain ⟨b, b1, b2, b3⟩ := gate18 c sl (by omega) (by omega) hx'
 have G := gateFor c sl (by omega) b b2 1 [a] (by simp)
 unfold spec_CloseSlot.f impl_CloseSlot.f
 have sj : ∀ z : Bool, z = true → Ev (fun k => spec_CloseSlot.j0 k a ([] : List Int) z c sl) (([] : List Int), ([] : List (List Int)), ([] : List Int), false) := fun z hz => Ev.step (fun k => spec_CloseSlot.j0.eq_2 ..) (Ev.pos hz (Ev.now _))
 have nope : ∀ {S I : Nat → Option (List Int × (List (List Int)) × List Int × Bool)}, Ev S (([] : List Int), ([] : List (List Int)), ([] : List Int), false) → Ev I (([] : List Int), ([] : List (List Int)), ([] : List Int), false) → ∃ (c' : List Int) (s' : List (List Int)) (l : List Int) (b : Bool), Ev S (c', s', l, b) ∧ Ev I (c', s', l, b) ∧ c'.length ≤ 1048576 ∧ s'.length ≤ 1048576 ∧ (∀ x ∈ s', x.length ≤ 1048576) ∧ l.length ≤ 1048576 := fun h1 h2 => ⟨[], [], [], false, h1, h2, by simp, by simp, fun x h => (by cases h), by simp⟩
 by_cases cb : b = true
 ·subst cb
  have g := b3 rfl
  have gl := g.len
  have gc := g.cap
  have sa := specSlot c sl (by omega) a
  by_cases ca : 0 ≤ a ∧ a ≤ (sl.length : Int) - 1
  ·rw [decide_eq_true ca] at sa
   rw [decide_eq_true (show (1 : Int) ≤ 1 ∧ (1 : Int) ≤ 99 by omega), decide_eq_true (show ∀ j : Nat, j < ([a] : List Int).length → 0 ≤ rd [a] j ∧ rd [a] j ≤ (sl.length : Int) - 1 from (rd1 _ fun x => 0 ≤ x ∧ x ≤ (sl.length : Int) - 1).2 ca)] at G
   obtain ⟨a, rfl⟩ := Int.eq_ofNat_of_zero_le ca.1
   have la : a < sl.length := by omega
   have la' : (a : Int) < sl.length := by omega
   have lac : (a : Int) < c.length := by omega
   have a0 : (0 : Int) ≤ a := by omega
   have g6 := g.short
   have rs := g.rise a la
   obtain ⟨ts, hts⟩ : ∃ ts, ts = sl[a]'la := ⟨_, rfl⟩
   have et : rd_L1 sl (a : Int) = ts := by rw [slotAt sl a la, hts]
   have lt : ts.length ≤ 6 := by rw [hts]; exact g6 _ (List.getElem_mem la)
   rw [← hts] at rs
   have apart : ∀ p : Nat, (hp : p < sl.length) → p ≠ a → ∀ x ∈ sl[p]'hp, x ∉ ts := by
    intro p hp ne x h1 h2
    rw [hts] at h2
    rcases Nat.lt_or_gt_of_ne ne with q | q
    ·refine (g.asc a la).2 x (by rw [slotAt sl a la]; exact h2) ⟨p, q, ?_⟩
     rw [slotAt sl p hp]
     exact h1
    ·refine (g.asc p hp).2 x (by rw [slotAt sl p hp]; exact h1) ⟨a, q, ?_⟩
     rw [slotAt sl a la]
     exact h2
   obtain ⟨c1, hc1⟩ : ∃ c1, c1 = c.set a 0 := ⟨_, rfl⟩
   have lc1 : c1.length = sl.length := by rw [hc1, List.length_set]; exact gc
   have room : ∀ (s : List (List Int)) (r : Nat), r < sl.length → Rm c1 s r → (rd_L1 s r).length ≤ 5 := by
    intro s r hr h
    unfold Rm at h
    rw [hc1] at h
    by_cases e : r = a
    ·rw [e, rd_set_self c a 0 (by omega)] at h
     omega
    ·rw [rd_set_ne c a r 0 e] at h
     have := (g.room r (Nat.zero_le _) hr).1
     omega
   have main : ∀ m j : Nat, j + m = ts.length → ∀ (s : List (List Int)) (lost : List Int), Placed sl a j ts s → lost.length ≤ j → ∃ (s' : List (List Int)) (l : List Int), Ev (fun k => spec_CloseSlot.l0 k a lost j c sl c1 s) (c1, s', l, true) ∧ Ev (fun k => impl_CloseSlot.l0 k a lost ts ts.length j c1 s) (c1, s', l, true) ∧ s'.length = sl.length ∧ (∀ x ∈ s', x.length ≤ 7) ∧ l.length ≤ ts.length := by
    intro m
    induction m with
    | zero =>
     intro j hj s lost P hl
     refine ⟨s, lost, Ev.step (fun k => spec_CloseSlot.l0.eq_2 ..) (Ev.pos a0 (Ev.pos la' (Ev.neg ?_ (Ev.now _)))), Ev.step (fun k => impl_CloseSlot.l0.eq_2 ..) (Ev.neg (by omega) (Ev.now _)), P.len, P.few, by omega⟩
     rw [et]
     omega
    | succ m ih =>
     intro j hj s lost P hl
     have lj : j < ts.length := by omega
     have lj' : (j : Int) < ts.length := by omega
     have j0 : (0 : Int) ≤ j := by omega
     have ll : lost.length < 17592186044416 := by omega
     have pl := P.len
     have w1 : wrap64 ((j : Int) + 1) = ((j + 1 : Nat) : Int) := by rw [w64 (by omega) (by omega)]; rfl
     obtain ⟨v, hv⟩ : ∃ v, v = rd ts j := ⟨_, rfl⟩
     have hv' : v = ts[j]'lj := by rw [hv]; exact rd_get ts j lj
     obtain ⟨p, B1, K1⟩ := implPick c1 s (by omega) (by omega) a (by omega) lost v ts ts.length j s.length 0 (by omega) (-1) (Or.inl ⟨rfl, fun i hi => absurd hi (by omega)⟩)
     obtain ⟨p2, e, B2, K2⟩ := specPick c sl c1 s (by omega) (by omega) (by omega) a (by omega) lost j (s.length - 1) 1 (by omega) (Nat.le_refl _) (-1) (Or.inl ⟨rfl, fun i hi hr => by
      have : i ≠ a := fun e => by
       unfold Rm at hr
       rw [hc1, e, rd_set_self c a 0 (by omega)] at hr
       omega
      omega⟩)
     obtain rfl := B1.unique B2
     have S : ∀ q, Ev (fun k => spec_CloseSlot.j3 k a lost j p e false c sl c1 s) q → Ev (fun k => spec_CloseSlot.l0 k a lost j c sl c1 s) q := fun q h => Ev.step (fun k => spec_CloseSlot.l0.eq_2 ..) (Ev.pos a0 (Ev.pos la' (Ev.pos (by rw [et]; exact lj') (K2 q h))))
     have I : ∀ q, Ev _ q → Ev (fun k => impl_CloseSlot.l0 k a lost ts ts.length j c1 s) q := fun q h => Ev.step (fun k => impl_CloseSlot.l0.eq_2 ..) (Ev.pos lj' (Ev.pos j0 (Ev.pos lj' (by rw [← hv]; exact K1 q h))))
     have lj2 : (j : Int) < ((rd_L1 sl (a : Int)).length : Int) := by rw [et]; exact lj'
     have ev : rd (rd_L1 sl (a : Int)) (j : Int) = v := by rw [et, hv]
     rcases B1 with ⟨rfl, _⟩ | ⟨r, rfl, rl, rr, _⟩
     ·obtain ⟨s', l, x1, x2, x3, x4, x5⟩ := ih (j + 1) (by omega) s (lost ++ [v]) ⟨P.len, P.few, P.rise, fun i hi x h => (P.from_ i hi x h).imp (fun h => h) (fun ⟨q, hq, q1, q2⟩ => ⟨q, hq, by omega, q2⟩)⟩ (by rw [List.length_append, List.length_singleton]; omega)
      rw [← w1] at x1 x2
      refine ⟨s', l, S _ (Ev.step (fun k => spec_CloseSlot.j3.eq_2 ..) (Ev.neg (by simp) (Ev.pos (by omega) (Ev.pos a0 (Ev.pos la' (Ev.pos j0 (Ev.pos lj2 (Ev.pos ll ?_)))))))), I _ (Ev.pos (by omega) (Ev.pos ll x2)), x3, x4, x5⟩
      rw [ev]
      exact x1
     ·have row := P.rise r rl
      have h5 := room s r (by omega) rr
      rw [slotAt s r rl] at h5
      have vn : v ∉ s[r]'rl := by
       intro h
       rcases P.from_ r rl v h with ⟨p, hp, ne, h2⟩ | ⟨q, hq, q1, q2⟩
       ·exact apart p hp ne v h2 (by rw [hv']; exact List.getElem_mem lj)
       ·have := (List.pairwise_iff_getElem.1 rs) q j hq lj q1
        rw [hv'] at q2
        omega
      have p1 := putOne c1 s (fun x h => by have := P.few x h; omega) v r rl
      have p2 := l1Put_eq (s[r]'rl) (by omega) row v vn
      obtain ⟨s', l, x1, x2, x3, x4, x5⟩ := ih (j + 1) (by omega) (s.set r (putAt (s[r]'rl) v)) lost ⟨by rw [List.length_set]; exact P.len, fun x h => by
       rcases List.mem_or_eq_of_mem_set h with h | h
       ·exact P.few x h
       ·rw [h, putAt_len]
        omega, fun i hi => by
       rw [List.length_set] at hi
       rw [List.getElem_set]
       split
       ·exact putAt_rise _ row v vn
       ·exact P.rise i hi, fun i hi x h => by
       rw [List.length_set] at hi
       rw [List.getElem_set] at h
       split at h
       ·rcases (putAt_mem _ v x).1 h with h | h
        ·exact (P.from_ r rl x h).imp (fun h => h) (fun ⟨q, hq, q1, q2⟩ => ⟨q, hq, by omega, q2⟩)
        ·exact Or.inr ⟨j, lj, by omega, by rw [h, hv']⟩
       ·exact (P.from_ i hi x h).imp (fun h => h) (fun ⟨q, hq, q1, q2⟩ => ⟨q, hq, by omega, q2⟩)⟩ (by omega)
      rw [← w1] at x1 x2
      have r0 : (0 : Int) ≤ r := by omega
      have rl' : (r : Int) < s.length := by omega
      refine ⟨s', l, S _ (Ev.step (fun k => spec_CloseSlot.j3.eq_2 ..) (Ev.neg (by simp) (Ev.neg (by omega) (Ev.pos r0 (Ev.pos rl' (Ev.pos a0 (Ev.pos la' (Ev.pos j0 (Ev.pos lj2 ?_))))))))), I _ (Ev.neg (by omega) (Ev.const p1 x2)), x3, x4, x5⟩
      rw [ev, slotAt s r rl, Int.toNat_natCast]
      exact Ev.bind p2 x1
   have few : ∀ x ∈ sl.set a ([] : List Int), x.length ≤ 7 := fun x h => by
    rcases List.mem_or_eq_of_mem_set h with h | h
    ·have := g6 x h
     omega
    ·rw [h]
     simp
   obtain ⟨s', l, x1, x2, x3, x4, x5⟩ := main ts.length 0 (by omega) (sl.set a []) [] ⟨List.length_set .., few, fun i hi => by
    rw [List.length_set] at hi
    rw [List.getElem_set]
    split
    ·exact List.Pairwise.nil
    ·exact g.rise i hi, fun i hi x h => by
    rw [List.length_set] at hi
    rw [List.getElem_set] at h
    split at h
    ·cases h
    ·rename_i ne
     exact Or.inl ⟨i, hi, fun e => ne e.symm, h⟩⟩ (by simp)
   refine ⟨c1, s', l, true, Ev.some (Ev.bind b1 (Ev.pos rfl (Ev.const sa (Ev.step (fun k => spec_CloseSlot.j0.eq_2 ..) (Ev.neg (by simp) (Ev.bind (specOwnGate c sl (by omega) (by omega) hx') (Ev.pos a0 (Ev.pos lac (Ev.pos la' ?_))))))))), Ev.bind G (Ev.pos rfl (Ev.bind (implOwnGate c sl (by omega) (by omega) hx') (Ev.pos a0 (Ev.pos la' (Ev.const (cloneInt _ (by rw [et]; omega)) (Ev.pos lac ?_)))))), by omega, by omega, fun x h => by have := x4 x h; omega, by omega⟩
   ·rw [Int.toNat_natCast, ← hc1]
    exact x1
   ·rw [Int.toNat_natCast, ← hc1, et]
    exact x2
  ·rw [decide_eq_false ca] at sa
   rw [decide_eq_false (fun h => ca ((rd1 a fun x => 0 ≤ x ∧ x ≤ (sl.length : Int) - 1).1 h)), Bool.and_false, Bool.and_false] at G
   exact nope (Ev.some (Ev.bind b1 (Ev.pos rfl (Ev.const sa (sj _ rfl))))) (Ev.bind G (Ev.neg (by simp) (Ev.now _)))
 ·have cb' : b = false := by cases b <;> simp_all
  subst cb'
  exact nope (Ev.some (Ev.bind b1 (Ev.neg (by simp) (sj _ rfl)))) (Ev.bind G (Ev.neg (by simp) (Ev.now _)))
theorem FnExactCloseSlot : ∀ (y0 : S50) (a1 : Int), inv50 y0 → (Lit.int .i64 a1).wf = true → ∃ k, laws_FnExactCloseSlot.f k y0.f0 y0.f1 a1 = some true := by
 intro y0 a1 ⟨⟨hc, _⟩, hl, hx⟩ _
 refine Ev.rounds ?_
 unfold laws_FnExactCloseSlot.f
 obtain ⟨z, z1, z2⟩ := szGate y0.f0 y0.f1 hc hl (fun x h => (hx x h).1)
 refine Ev.bind z1 ?_
 by_cases hz : z < 0
 ·exact Ev.pos hz (Ev.now _)
 ·refine Ev.neg hz ?_
  obtain ⟨n0, n1, n2⟩ := z2 (by omega)
  have tg := toGate y0.f0 y0.f1 n0 n1 n2
  obtain ⟨c, s, l, b, r1, r2, c1, s1, s2, l1⟩ := closeSlot y0.f0 y0.f1 n0 n1 n2 a1
  obtain ⟨m, c', s', m0, m1, m2⟩ := markGate y0.f0 y0.f1 n0 n1 n2
  obtain ⟨m', c2, s3, ⟨m3, mu⟩, m4, m5⟩ := markGateB c s c1 s1 s2
  obtain ⟨l2, k1, k2⟩ := markIntS l (by omega) m' m3 (by omega)
  exact Ev.bind tg (Ev.bind r1 (Ev.bind r2 (Ev.pos rfl (Ev.bind (eqGate c s c1 s1 s2) (Ev.pos rfl (Ev.bind (eqIntS l (by omega)) (Ev.pos rfl (Ev.bind (eqGate _ _ n0 n1 n2) (Ev.pos rfl (Ev.bind m1 (Ev.neg (Int.not_lt.2 m0) (Ev.bind m4 (Ev.bind k1 (Ev.bind m5 (Ev.neg (Int.not_lt.2 m3) (Ev.bind k2 (Ev.pos rfl (Ev.neg (by omega) (Ev.now _)))))))))))))))))))
end Go.Proofs.Ytglfjaaaegfdnaa.Pure
