/- The program's TruckSlot returns what the reference's returns, for all arguments; the arguments read as they did. No condition. -/
import Derived.Test.YtpflhkjdjcfonaaInvFnExactTruckSlot
import Derived.Test.YtpflhkjdjcfonaaWHelp
namespace Go.Proofs.Ytpflhkjdjcfonaa.Pure
open Go.RowKit Go.Proofs.YtpflhkjdjcfonaaW.PrintWords Go.Proofs.YtpflhkjdjcfonaaW.PrintLast Go.Proofs.YtpflhkjdjcfonaaW.PrintMore Go.Proofs.YtpflhkjdjcfonaaW.Help Go.Proofs.Ytpflhkjdjcfonaa.PFnExactTruckSlot
set_option linter.unusedVariables false

theorem toIntS (l : List Int) (hl : l.length ≤ 1048576) : Ev (fun k => laws_toIntS.f k l) l := by
  unfold laws_toIntS.f
  refine Ev.pos (by omega) (Ev.pos (by omega) ?_)
  simp only [Int.toNat_natCast]
  refine Ev.eq (fill_ev l (fun x => x) 0 (fun k ys i => laws_toIntS.l0 k l ys i) ?_ ?_) (List.map_id' l)
  · intro i h ys hy r hr
    refine Ev.step (fun k => laws_toIntS.l0.eq_2 ..) (Ev.pos (by omega) (Ev.pos (by omega) (Ev.pos (by omega) ?_)))
    rw [w64 (by omega) (by omega)]
    have e : rd l (i : Int) = l[i] := by
      unfold rd
      rw [Int.toNat_natCast]
      exact getD_of (List.getElem?_eq_getElem h)
    rw [e, Int.toNat_natCast]
    exact hr
  · intro ys hy
    exact Ev.step (fun k => laws_toIntS.l0.eq_2 ..) (Ev.neg (by omega) (Ev.now _))

theorem rd_set_self (ys : List Int) (i : Nat) (v : Int) (h : i < ys.length) : rd (ys.set i v) (i : Int) = v := by
  unfold rd
  rw [Int.toNat_natCast, List.getD_eq_getElem?_getD, List.getElem?_set_self h]
  rfl
theorem rd_set_ne (ys : List Int) (i j : Nat) (v : Int) (h : j ≠ i) : rd (ys.set i v) (j : Int) = rd ys (j : Int) := by
  unfold rd
  rw [Int.toNat_natCast, List.getD_eq_getElem?_getD, List.getElem?_set_ne (by omega), ← List.getD_eq_getElem?_getD]

theorem eqIntS (l : List Int) (hl : l.length ≤ 1000000000) : Ev (fun k => laws_eqIntS.f k l l) true := by
  unfold laws_eqIntS.f
  refine Ev.pos rfl ?_
  refine down_ev l.length (fun k i => laws_eqIntS.l0 k l l i) ?_ ?_
  · intro i h hr
    refine Ev.step (fun k => laws_eqIntS.l0.eq_2 ..) (Ev.pos (by omega) (Ev.pos (by omega) (Ev.pos (by omega) (Ev.pos rfl ?_))))
    rw [w64 (by omega) (by omega)]
    exact hr
  · exact Ev.step (fun k => laws_eqIntS.l0.eq_2 ..) (Ev.neg (by omega) (Ev.now _))

theorem szIntS (l : List Int) (a : Int) (h0 : 0 ≤ a) (h1 : a ≤ 1048576) (hl : l.length ≤ 9223372036854775807) : laws_szIntS.f l a = some (if a < l.length then -1 else a - l.length) := by
  unfold laws_szIntS.f
  rw [w64 (by omega) (by omega)]
  by_cases h : a < l.length
  · rw [if_pos (by omega), if_pos h]
  · rw [if_neg (by omega), if_neg h]
theorem szIntSS (l : List (List Int)) (a : Int) (ha0 : 0 ≤ a) (ha : a ≤ 1048576) (hl : l.length ≤ 9223372036854775807) (hx : ∀ x ∈ l, x.length ≤ 9223372036854775807) : ∃ r : Int, Ev (fun k => laws_szIntSS.f k l a) r ∧ (0 ≤ r → l.length ≤ 1048576 ∧ ∀ x ∈ l, x.length ≤ 1048576) := by
  unfold laws_szIntSS.f
  rw [w64 (by omega) (by omega)]
  by_cases c : a < l.length
  · exact ⟨-1, Ev.pos (by omega) (Ev.now _), fun h => by omega⟩
  · have main : ∀ d i : Nat, i + d = l.length → ∀ a : Int, 0 ≤ a → a ≤ 1048576 → ∃ r : Int, Ev (fun k => laws_szIntSS.l0 k l a i) r ∧ (0 ≤ r → ∀ j : Nat, i ≤ j → (h : j < l.length) → l[j].length ≤ 1048576) := by
      intro d
      induction d with
      | zero =>
        intro i hi a h0 h1
        exact ⟨a, Ev.step (fun k => laws_szIntSS.l0.eq_2 ..) (Ev.neg (by omega) (Ev.now _)), fun _ j hj h => by omega⟩
      | succ d ih =>
        intro i hi a h0 h1
        have e : rd_L1 l (i : Int) = l[i]'(by omega) := by
          unfold rd_L1
          rw [Int.toNat_natCast]
          exact getD_of (List.getElem?_eq_getElem (by omega))
        have hxi := hx (l[i]'(by omega)) (List.getElem_mem _)
        have w1 : wrap64 ((i : Int) + 1) = ((i + 1 : Nat) : Int) := by rw [w64 (by omega) (by omega)]; rfl
        have sz := szIntS (l[i]'(by omega)) a h0 h1 hxi
        by_cases q : a < (l[i]'(by omega)).length
        · rw [if_pos q] at sz
          refine ⟨-1, Ev.step (fun k => laws_szIntSS.l0.eq_2 ..) (Ev.pos (by omega) (Ev.pos (by omega) ?_)), fun h => by omega⟩
          rw [e]
          exact Ev.const sz (Ev.pos (by omega) (Ev.now _))
        · rw [if_neg q] at sz
          obtain ⟨r, r1, r2⟩ := ih (i + 1) (by omega) (a - (l[i]'(by omega)).length) (by omega) (by omega)
          refine ⟨r, Ev.step (fun k => laws_szIntSS.l0.eq_2 ..) (Ev.pos (by omega) (Ev.pos (by omega) ?_)), fun h j hj hlt => ?_⟩
          · rw [e, w1]
            exact Ev.const sz (Ev.neg (by omega) r1)
          · rcases Nat.lt_or_ge i j with h3 | h3
            · exact r2 h j h3 hlt
            · obtain rfl : j = i := by omega
              omega
    obtain ⟨r, r1, r2⟩ := main l.length 0 (by omega) (a - l.length) (by omega) (by omega)
    refine ⟨r, Ev.neg (by omega) r1, fun h => ⟨by omega, fun x hx' => ?_⟩⟩
    obtain ⟨j, hj, rfl⟩ := List.getElem_of_mem hx'
    exact r2 h j (by omega) hj
theorem szGate (c : List Int) (l : List (List Int)) (hc : c.length ≤ 9223372036854775807) (hl : l.length ≤ 9223372036854775807) (hx : ∀ x ∈ l, x.length ≤ 9223372036854775807) : ∃ r : Int, Ev (fun k => laws_szGate.f k c l 1048576) r ∧ (0 ≤ r → c.length ≤ 1048576 ∧ l.length ≤ 1048576 ∧ ∀ x ∈ l, x.length ≤ 1048576) := by
  unfold laws_szGate.f
  have s := szIntS c 1048576 (by omega) (by omega) hc
  by_cases q : (1048576 : Int) < c.length
  · rw [if_pos q] at s
    exact ⟨-1, Ev.const s (Ev.pos (by omega) (Ev.now _)), fun h => by omega⟩
  · rw [if_neg q] at s
    obtain ⟨r, r1, r2⟩ := szIntSS l (1048576 - c.length) (by omega) (by omega) hl hx
    by_cases z : r < 0
    · exact ⟨-1, Ev.const s (Ev.neg (by omega) (Ev.bind r1 (Ev.pos z (Ev.now _)))), fun h => by omega⟩
    · exact ⟨r, Ev.const s (Ev.neg (by omega) (Ev.bind r1 (Ev.neg z (Ev.now _)))), fun h => ⟨by omega, r2 h⟩⟩
theorem toIntSS (l : List (List Int)) (hl : l.length ≤ 1048576) (hx : ∀ x ∈ l, x.length ≤ 1048576) : Ev (fun k => laws_toIntSS.f k l) l := by
  unfold laws_toIntSS.f
  refine Ev.pos (by omega) (Ev.pos (by omega) ?_)
  simp only [Int.toNat_natCast]
  refine Ev.eq (fill_ev l (fun x => x) [] (fun k ys i => laws_toIntSS.l0 k l ys i) ?_ ?_) (List.map_id' l)
  · intro i h ys hy r hr
    have e : rd_L1 l (i : Int) = l[i] := by
      unfold rd_L1
      rw [Int.toNat_natCast]
      exact getD_of (List.getElem?_eq_getElem h)
    refine Ev.step (fun k => laws_toIntSS.l0.eq_2 ..) (Ev.pos (by omega) (Ev.pos (by omega) ?_))
    rw [e]
    refine Ev.bind (toIntS l[i] (hx _ (List.getElem_mem _))) (Ev.pos (by omega) ?_)
    rw [w64 (by omega) (by omega), Int.toNat_natCast]
    exact hr
  · intro ys hy
    exact Ev.step (fun k => laws_toIntSS.l0.eq_2 ..) (Ev.neg (by omega) (Ev.now _))
theorem eqIntSS (l : List (List Int)) (hl : l.length ≤ 1048576) (hx : ∀ x ∈ l, x.length ≤ 1048576) : Ev (fun k => laws_eqIntSS.f k l l) true := by
  unfold laws_eqIntSS.f
  refine Ev.pos rfl ?_
  refine down_ev l.length (fun k i => laws_eqIntSS.l0 k l l i) ?_ ?_
  · intro i h hr
    have e : rd_L1 l (i : Int) = l[i] := by
      unfold rd_L1
      rw [Int.toNat_natCast]
      exact getD_of (List.getElem?_eq_getElem h)
    refine Ev.step (fun k => laws_eqIntSS.l0.eq_2 ..) (Ev.pos (by omega) (Ev.pos (by omega) (Ev.pos (by omega) ?_)))
    rw [e]
    refine Ev.bind (eqIntS _ (by have := hx _ (List.getElem_mem h); omega)) (Ev.pos rfl ?_)
    rw [w64 (by omega) (by omega)]
    exact hr
  · exact Ev.step (fun k => laws_eqIntSS.l0.eq_2 ..) (Ev.neg (by omega) (Ev.now _))
theorem toGate (c : List Int) (l : List (List Int)) (hc : c.length ≤ 1048576) (hl : l.length ≤ 1048576) (hx : ∀ x ∈ l, x.length ≤ 1048576) : Ev (fun k => laws_toGate.f k c l) (c, l) := by
  unfold laws_toGate.f
  exact Ev.bind (toIntS c hc) (Ev.bind (toIntSS l hl hx) (Ev.now _))
theorem eqGate (c : List Int) (l : List (List Int)) (hc : c.length ≤ 1048576) (hl : l.length ≤ 1048576) (hx : ∀ x ∈ l, x.length ≤ 1048576) : Ev (fun k => laws_eqGate.f k c l c l) true := by
  unfold laws_eqGate.f
  exact Ev.bind (eqIntS c (by omega)) (Ev.pos rfl (Ev.bind (eqIntSS l hl hx) (Ev.pos rfl (Ev.now _))))

theorem l1In_eq (a b c : Int) : spec_l1In.f a b c = some (decide (b ≤ a ∧ a ≤ c)) := by
  unfold spec_l1In.f
  by_cases h : b ≤ a <;> simp [h]

theorem within_eq (a b c : Int) : impl_within.f a b c = some (decide (b ≤ a ∧ a ≤ c)) := by
  unfold impl_within.f
  by_cases h : b ≤ a <;> simp [h]

/-- Is a number in a list: the reference's way and the library's. -/
theorem has_eq (l : List Int) (hl : l.length ≤ 1000000000) (a : Int) : Ev (fun k => spec_l1Has.f k l a) (decide (a ∈ l)) := by
  unfold spec_l1Has.f
  have main : ∀ d i : Nat, i + d = l.length → Ev (fun k => spec_l1Has.l0 k l a i) (decide (a ∈ l.drop i)) := by
    intro d
    induction d with
    | zero =>
      intro i hi
      exact Ev.step (fun k => spec_l1Has.l0.eq_2 ..) (Ev.neg (by omega) (Ev.eq (Ev.now _) (by simp [List.drop_of_length_le (show l.length ≤ i by omega)])))
    | succ d ih =>
      intro i hi
      have w1 : wrap64 ((i : Int) + 1) = ((i + 1 : Nat) : Int) := by rw [w64 (by omega) (by omega)]; rfl
      have e : rd l (i : Int) = l[i]'(by omega) := by
        unfold rd
        rw [Int.toNat_natCast]
        exact getD_of (List.getElem?_eq_getElem (by omega))
      refine Ev.step (fun k => spec_l1Has.l0.eq_2 ..) (Ev.pos (by omega) (Ev.pos (by omega) ?_))
      rw [e, w1, List.drop_eq_getElem_cons (by omega)]
      by_cases c : l[i]'(by omega) = a
      · exact Ev.pos c (Ev.eq (Ev.now _) (decide_eq_true (List.mem_cons.2 (Or.inl c.symm))).symm)
      · refine Ev.neg c (Ev.eq (ih (i + 1) (by omega)) ?_)
        have : ¬ a = l[i]'(by omega) := fun h => c h.symm
        exact decide_eq_decide.2 ⟨fun h => List.mem_cons_of_mem _ h, fun h => (List.mem_cons.1 h).resolve_left this⟩
  exact main l.length 0 (by omega)

theorem slotMem (sl : List (List Int)) (j : Nat) (h : j < sl.length) : rd_L1 sl j ∈ sl := by
  unfold rd_L1
  rw [Int.toNat_natCast, getD_of (List.getElem?_eq_getElem h)]
  exact List.getElem_mem h
theorem rd_mem (s : List Int) (j : Nat) (h : j < s.length) : rd s j ∈ s := by
  unfold rd
  rw [Int.toNat_natCast, getD_of (List.getElem?_eq_getElem h)]
  exact List.getElem_mem h
theorem mem_rd (s : List Int) (x : Int) (h : x ∈ s) : ∃ j : Nat, j < s.length ∧ rd s j = x := by
  obtain ⟨j, hj, rfl⟩ := List.getElem_of_mem h
  refine ⟨j, hj, ?_⟩
  unfold rd
  rw [Int.toNat_natCast]
  exact getD_of (List.getElem?_eq_getElem hj)
/-- The first slot that holds a truck. -/
theorem find18 (c : List Int) (sl : List (List Int)) (hs : sl.length ≤ 1048577) (hx : ∀ x ∈ sl, x.length ≤ 1048577) (v : Int) : ∀ d i : Nat, i + d = sl.length → ∃ t : Int, Ev (fun k => spec_l18Find.l0 k v i c sl) t ∧
    ((t = -1 ∧ ∀ j : Nat, i ≤ j → j < sl.length → v ∉ rd_L1 sl j) ∨ ∃ m : Nat, t = m ∧ i ≤ m ∧ m < sl.length ∧ v ∈ rd_L1 sl m ∧ ∀ j : Nat, i ≤ j → j < m → v ∉ rd_L1 sl j) := by
  intro d
  induction d with
  | zero =>
    intro i hi
    exact ⟨-1, Ev.step (fun k => spec_l18Find.l0.eq_2 ..) (Ev.neg (by omega) (Ev.now _)), .inl ⟨rfl, fun j h1 h2 => absurd h2 (by omega)⟩⟩
  | succ d ih =>
    intro i hi
    have li : (i : Int) < sl.length := by omega
    have i0 : (0 : Int) ≤ i := by omega
    have w1 : wrap64 ((i : Int) + 1) = ((i + 1 : Nat) : Int) := by rw [w64 (by omega) (by omega)]; rfl
    have hl := hx _ (slotMem sl i (by omega))
    have ha := has_eq (rd_L1 sl i) (by omega) v
    have pre : ∀ r, Ev _ r → Ev (fun k => spec_l18Find.l0 k v i c sl) r := fun r hr => Ev.step (fun k => spec_l18Find.l0.eq_2 ..) (Ev.pos li (Ev.pos i0 (Ev.bind ha hr)))
    by_cases q : v ∈ rd_L1 sl i
    · exact ⟨i, pre _ (Ev.pos (decide_eq_true q) (Ev.now _)), .inr ⟨i, rfl, Nat.le_refl _, by omega, q, fun j h1 h2 => absurd h2 (by omega)⟩⟩
    · obtain ⟨t, h1, h2⟩ := ih (i + 1) (by omega)
      have ex : ∀ j : Nat, i ≤ j → (i + 1 ≤ j → v ∉ rd_L1 sl j) → v ∉ rd_L1 sl j := by
        intro j j1 h
        rcases Nat.lt_or_ge i j with g | g
        · exact h g
        · obtain rfl : j = i := by omega
          exact q
      rw [← w1] at h1
      refine ⟨t, pre _ (Ev.neg (fun h => q (of_decide_eq_true h)) h1), ?_⟩
      rcases h2 with ⟨rfl, h2⟩ | ⟨m, rfl, m1, m2, m3, m4⟩
      · exact .inl ⟨rfl, fun j j1 j2 => ex j j1 (fun g => h2 j g j2)⟩
      · exact .inr ⟨m, rfl, by omega, m2, m3, fun j j1 j2 => ex j j1 (fun g => m4 j g j2)⟩
theorem find18_at (c : List Int) (sl : List (List Int)) (hs : sl.length ≤ 1048577) (hx : ∀ x ∈ sl, x.length ≤ 1048577) (v : Int) (i : Nat) (hi : i < sl.length) (hv : v ∈ rd_L1 sl i) : ∃ t : Int, Ev (fun k => spec_l18Find.f k c sl v) t ∧ (t = i ↔ ¬ ∃ j : Nat, j < i ∧ v ∈ rd_L1 sl j) := by
  obtain ⟨t, h1, h2⟩ := find18 c sl hs hx v sl.length 0 (by omega)
  refine ⟨t, by unfold spec_l18Find.f; exact h1, ?_⟩
  rcases h2 with ⟨rfl, h2⟩ | ⟨m, rfl, m1, m2, m3, m4⟩
  · exact absurd hv (h2 i (by omega) hi)
  · constructor
    · intro e ⟨j, j1, j2⟩
      exact m4 j (by omega) (by omega) j2
    · intro h
      rcases Nat.lt_trichotomy m i with q | q | q
      · exact absurd ⟨m, q, m3⟩ h
      · omega
      · exact absurd hv (m4 i (by omega) q)
theorem wf99 {x : Int} (h : 1 ≤ x ∧ x ≤ 99) : (Lit.int .i64 x).wf = true := by
  simp [Lit.wf, IntKind.min, IntKind.max, IntKind.signed, IntKind.bits]
  omega
theorem gateInner (c : List Int) (sl : List (List Int)) (hs : sl.length ≤ 1048577) (hx : ∀ x ∈ sl, x.length ≤ 1048577) (R : Prop) (i : Nat) (hi : i < sl.length) (L : Nat) (hL : L ≤ 100) (hn : (rd_L1 sl i).length ≤ 6)
    (cont : ∀ seen : List Int, seen.length = L + (rd_L1 sl i).length → (∀ x, x ∈ seen ↔ ∃ j : Nat, j < i + 1 ∧ x ∈ rd_L1 sl j) → ∃ b : Bool, Ev (fun k => spec_l18Good.l0 k ((L + (rd_L1 sl i).length : Nat) : Int) ((i + 1 : Nat) : Int) c sl) b ∧ Ev (fun k => impl_IsValidGate.l0 k seen sl sl.length ((i + 1 : Nat) : Int) c sl) b ∧ (b = true → R)) :
    ∀ d j : Nat, j + d = (rd_L1 sl i).length → ∀ seen : List Int, seen.length = L + j → (∀ x, x ∈ seen ↔ (∃ p : Nat, p < i ∧ x ∈ rd_L1 sl p) ∨ ∃ p : Nat, p < j ∧ rd (rd_L1 sl i) p = x) → (∀ p : Nat, p < j → rd (rd_L1 sl i) p ≤ rd (rd_L1 sl i) ((j : Int) - 1)) →
    ∃ b : Bool, Ev (fun k => spec_l18Good.l1 k L i (rd_L1 sl i) j c sl) b ∧ Ev (fun k => impl_IsValidGate.l1 k seen (rd_L1 sl i) sl sl.length i (rd_L1 sl i) (rd_L1 sl i).length j c sl) b ∧ (b = true → R ∧ ∀ p : Nat, j ≤ p → p < (rd_L1 sl i).length → 1 ≤ rd (rd_L1 sl i) p ∧ rd (rd_L1 sl i) p ≤ 99) := by
  generalize hsi : rd_L1 sl i = s at *
  intro d
  induction d with
  | zero =>
    intro j hj seen hlen hmem hasc
    obtain rfl : j = s.length := by omega
    have w1 : wrap64 ((i : Int) + 1) = ((i + 1 : Nat) : Int) := by rw [w64 (by omega) (by omega)]; rfl
    have w2 : wrap64 ((L : Int) + (s.length : Int)) = ((L + s.length : Nat) : Int) := by rw [w64 (by omega) (by omega)]; rfl
    obtain ⟨b, b1, b2, b3⟩ := cont seen hlen (fun x => (hmem x).trans ⟨fun h => by
      rcases h with ⟨p, p1, p2⟩ | ⟨p, p1, p2⟩
      · exact ⟨p, by omega, p2⟩
      · exact ⟨i, by omega, by rw [hsi, ← p2]; exact rd_mem s p p1⟩, fun ⟨p, p1, p2⟩ => by
      rcases Nat.lt_or_ge p i with q | q
      · exact .inl ⟨p, q, p2⟩
      · obtain rfl : p = i := by omega
        rw [hsi] at p2
        exact .inr (mem_rd s x p2)⟩)
    rw [← w1, ← w2] at b1
    rw [← w1] at b2
    exact ⟨b, Ev.step (fun k => spec_l18Good.l1.eq_2 ..) (Ev.neg (by omega) b1), Ev.step (fun k => impl_IsValidGate.l1.eq_2 ..) (Ev.neg (by omega) b2), fun h => ⟨b3 h, fun p h1 h2 => absurd h2 (by omega)⟩⟩
  | succ d ih =>
    intro j hj seen hlen hmem hasc
    have lj : (j : Int) < s.length := by omega
    have j0 : (0 : Int) ≤ j := by omega
    have w1 : wrap64 ((j : Int) + 1) = ((j + 1 : Nat) : Int) := by rw [w64 (by omega) (by omega)]; rfl
    have vin : rd s j ∈ s := rd_mem s j (by omega)
    have S : ∀ r, Ev _ r → Ev (fun k => spec_l18Good.l1 k L i s j c sl) r := fun r hr => Ev.step (fun k => spec_l18Good.l1.eq_2 ..) (Ev.pos lj (Ev.pos j0 (Ev.const (l1In_eq _ _ _) hr)))
    have I : ∀ r, Ev _ r → Ev (fun k => impl_IsValidGate.l1 k seen s sl sl.length i s s.length j c sl) r := fun r hr => Ev.step (fun k => impl_IsValidGate.l1.eq_2 ..) (Ev.pos lj (Ev.pos j0 (Ev.pos lj (Ev.const (within_eq _ _ _) hr))))
    by_cases c1 : 1 ≤ rd s j ∧ rd s j ≤ 99
    · have lk : klook.f seen (rd s j) = some (decide (rd s j ∈ seen)) := by unfold klook.f; rw [if_pos (wf99 c1)]
      have pt : rd s j ∉ seen → kput.f seen (rd s j) = some (seen ++ [rd s j]) := fun h => by unfold kput.f; rw [if_pos ⟨wf99 c1, by omega⟩, if_neg h]
      obtain ⟨t, t1, t2⟩ := find18_at c sl hs hx (rd s j) i hi (by rw [hsi]; exact vin)
      -- what goes on behind a truck that is as it should be
      have go : ∀ (up : ∀ p : Nat, p < j → rd s p < rd s j) (no : ¬ ∃ p : Nat, p < i ∧ rd s j ∈ rd_L1 sl p), rd s j ∉ seen ∧ ∃ b : Bool, Ev (fun k => spec_l18Good.l1 k L i s (wrap64 ((j : Int) + 1)) c sl) b ∧ Ev (fun k => impl_IsValidGate.l1 k (seen ++ [rd s j]) s sl sl.length i s s.length (wrap64 ((j : Int) + 1)) c sl) b ∧ (b = true → R ∧ ∀ p : Nat, j + 1 ≤ p → p < s.length → 1 ≤ rd s p ∧ rd s p ≤ 99) := by
        intro up no
        refine ⟨fun h => ?_, ?_⟩
        · rcases (hmem _).1 h with h | ⟨p, p1, p2⟩
          · exact no h
          · have := up p p1
            omega
        · rw [w1]
          refine ih (j + 1) (by omega) (seen ++ [rd s j]) (by simp; omega) (fun x => ?_) (fun p hp => ?_)
          · rw [List.mem_append, List.mem_singleton, hmem x]
            constructor
            · rintro ((h | ⟨p, p1, p2⟩) | rfl)
              · exact .inl h
              · exact .inr ⟨p, by omega, p2⟩
              · exact .inr ⟨j, by omega, rfl⟩
            · rintro (h | ⟨p, p1, p2⟩)
              · exact .inl (.inl h)
              · rcases Nat.lt_or_ge p j with q | q
                · exact .inl (.inr ⟨p, q, p2⟩)
                · obtain rfl : p = j := by omega
                  exact .inr p2.symm
          · have e : (((j + 1 : Nat) : Int) - 1) = (j : Int) := by omega
            rw [e]
            rcases Nat.lt_or_ge p j with q | q
            · exact Int.le_of_lt (up p q)
            · obtain rfl : p = j := by omega
              exact Int.le_refl _
      have all : ∀ b : Bool, (b = true → R ∧ ∀ p : Nat, j + 1 ≤ p → p < s.length → 1 ≤ rd s p ∧ rd s p ≤ 99) → (b = true → R ∧ ∀ p : Nat, j ≤ p → p < s.length → 1 ≤ rd s p ∧ rd s p ≤ 99) := fun b g3 h => ⟨(g3 h).1, fun p h1 h2 => by
        rcases Nat.lt_or_ge j p with q | q
        · exact (g3 h).2 p q h2
        · obtain rfl : p = j := by omega
          exact c1⟩
      by_cases cj : (j : Int) > 0
      · have wj : wrap64 ((j : Int) - 1) = (j : Int) - 1 := w64 (by omega) (by omega)
        have b0 : (0 : Int) ≤ (j : Int) - 1 := by omega
        have b1 : (j : Int) - 1 < s.length := by omega
        by_cases ca : rd s ((j : Int) - 1) ≥ rd s j
        · refine ⟨false, S _ (Ev.pos (decide_eq_true c1) (Ev.pos cj ?_)), I _ (Ev.pos (decide_eq_true c1) (Ev.const lk ?_)), fun h => by cases h⟩
          · rw [wj]
            exact Ev.pos b0 (Ev.pos b1 (Ev.pos ca (Ev.now _)))
          · refine Ev.ite (fun _ => Ev.now _) (fun _ => Ev.pos cj ?_)
            rw [wj]
            exact Ev.pos b0 (Ev.pos b1 (Ev.pos ca (Ev.now _)))
        · have up : ∀ p : Nat, p < j → rd s p < rd s j := fun p hp => by
            have := hasc p hp
            omega
          by_cases cf : ∃ p : Nat, p < i ∧ rd s j ∈ rd_L1 sl p
          · have cs : rd s j ∈ seen := (hmem _).2 (.inl cf)
            have ct : ¬ t = (i : Int) := fun h => t2.1 h cf
            refine ⟨false, S _ (Ev.pos (decide_eq_true c1) (Ev.pos cj ?_)), I _ (Ev.pos (decide_eq_true c1) (Ev.const lk (Ev.pos (decide_eq_true cs) (Ev.now _)))), fun h => by cases h⟩
            rw [wj]
            exact Ev.pos b0 (Ev.pos b1 (Ev.neg ca (Ev.bind t1 (Ev.neg ct (Ev.now _)))))
          · obtain ⟨ns, b, g1, g2, g3⟩ := go up cf
            have ct : t = (i : Int) := t2.2 cf
            refine ⟨b, S _ (Ev.pos (decide_eq_true c1) (Ev.pos cj ?_)), I _ (Ev.pos (decide_eq_true c1) (Ev.const lk (Ev.neg (fun h => ns (of_decide_eq_true h)) (Ev.pos cj ?_)))), all b g3⟩
            · rw [wj]
              exact Ev.pos b0 (Ev.pos b1 (Ev.neg ca (Ev.bind t1 (Ev.pos ct g1))))
            · rw [wj]
              exact Ev.pos b0 (Ev.pos b1 (Ev.neg ca (Ev.const (pt ns) g2)))
      · have up : ∀ p : Nat, p < j → rd s p < rd s j := fun p hp => by omega
        by_cases cf : ∃ p : Nat, p < i ∧ rd s j ∈ rd_L1 sl p
        · have cs : rd s j ∈ seen := (hmem _).2 (.inl cf)
          have ct : ¬ t = (i : Int) := fun h => t2.1 h cf
          exact ⟨false, S _ (Ev.pos (decide_eq_true c1) (Ev.neg cj (Ev.bind t1 (Ev.neg ct (Ev.now _))))), I _ (Ev.pos (decide_eq_true c1) (Ev.const lk (Ev.pos (decide_eq_true cs) (Ev.now _)))), fun h => by cases h⟩
        · obtain ⟨ns, b, g1, g2, g3⟩ := go up cf
          have ct : t = (i : Int) := t2.2 cf
          exact ⟨b, S _ (Ev.pos (decide_eq_true c1) (Ev.neg cj (Ev.bind t1 (Ev.pos ct g1)))), I _ (Ev.pos (decide_eq_true c1) (Ev.const lk (Ev.neg (fun h => ns (of_decide_eq_true h)) (Ev.neg cj (Ev.const (pt ns) g2))))), all b g3⟩
    · exact ⟨false, S _ (Ev.neg (fun h => c1 (of_decide_eq_true h)) (Ev.now _)), I _ (Ev.neg (fun h => c1 (of_decide_eq_true h)) (Ev.now _)), fun h => by cases h⟩
/-- The rooms of the slots. -/
def Room (c : List Int) (sl : List (List Int)) (i : Nat) : Prop := ∀ j : Nat, i ≤ j → j < sl.length → (0 ≤ rd c j ∧ rd c j ≤ 6) ∧ ((rd_L1 sl j).length : Int) ≤ rd c j ∧ ∀ x, x ∈ rd_L1 sl j → 1 ≤ x ∧ x ≤ 99
theorem gateOuter (c : List Int) (sl : List (List Int)) (hs : sl.length ≤ 12) (hc : c.length = sl.length) (hx : ∀ x ∈ sl, x.length ≤ 1048577) : ∀ d i : Nat, i + d = sl.length → ∀ (seen : List Int) (L : Nat), L ≤ 6 * i → seen.length = L → (∀ x, x ∈ seen ↔ ∃ j : Nat, j < i ∧ x ∈ rd_L1 sl j) →
    ∃ b : Bool, Ev (fun k => spec_l18Good.l0 k L i c sl) b ∧ Ev (fun k => impl_IsValidGate.l0 k seen sl sl.length i c sl) b ∧ (b = true → Room c sl i) := by
  intro d
  induction d with
  | zero =>
    intro i hi seen L hL hlen hmem
    refine ⟨decide ((L : Int) ≤ 30), Ev.step (fun k => spec_l18Good.l0.eq_2 ..) (Ev.neg (by omega) (Ev.now _)), Ev.step (fun k => impl_IsValidGate.l0.eq_2 ..) (Ev.neg (by omega) (Ev.const (show klen.f seen = some (seen.length : Int) from rfl) (Ev.eq (Ev.now _) ?_))), fun _ j h1 h2 => absurd h2 (by omega)⟩
    rw [hlen]
  | succ d ih =>
    intro i hi seen L hL hlen hmem
    have li : (i : Int) < sl.length := by omega
    have lc : (i : Int) < c.length := by omega
    have i0 : (0 : Int) ≤ i := by omega
    have S : ∀ r, Ev _ r → Ev (fun k => spec_l18Good.l0 k L i c sl) r := fun r hr => Ev.step (fun k => spec_l18Good.l0.eq_2 ..) (Ev.pos li (Ev.pos i0 (Ev.pos lc (Ev.const (l1In_eq _ _ _) hr))))
    have I : ∀ r, Ev _ r → Ev (fun k => impl_IsValidGate.l0 k seen sl sl.length i c sl) r := fun r hr => Ev.step (fun k => impl_IsValidGate.l0.eq_2 ..) (Ev.pos li (Ev.pos i0 (Ev.pos li (Ev.pos lc (Ev.const (within_eq _ _ _) hr)))))
    have sj : ∀ z : Bool, z = true → Ev (fun k => spec_l18Good.j2 k L i (rd_L1 sl i) z c sl) false := fun z hz => Ev.step (fun k => spec_l18Good.j2.eq_2 ..) (Ev.pos hz (Ev.now _))
    have ij : ∀ z : Bool, z = true → Ev (fun k => impl_IsValidGate.j2 k seen (rd_L1 sl i) sl sl.length i z c sl) false := fun z hz => Ev.step (fun k => impl_IsValidGate.j2.eq_2 ..) (Ev.pos hz (Ev.now _))
    by_cases c1 : 0 ≤ rd c i ∧ rd c i ≤ 6
    · by_cases c2 : ((rd_L1 sl i).length : Int) > rd c i
      · exact ⟨false, S _ (Ev.pos (decide_eq_true c1) (sj _ (decide_eq_true c2))), I _ (Ev.pos (decide_eq_true c1) (ij _ (decide_eq_true c2))), fun h => by cases h⟩
      · obtain ⟨b, b1, b2, b3⟩ := gateInner c sl (by omega) hx (Room c sl (i + 1)) i (by omega) L (by omega) (by omega) (fun seen' h1 h2 => ih (i + 1) (by omega) seen' _ (by omega) h1 h2) (rd_L1 sl i).length 0 (by omega) seen (by omega) (fun x => (hmem x).trans ⟨.inl, fun h => by
          rcases h with h | ⟨p, p1, _⟩
          · exact h
          · omega⟩) (fun p hp => by omega)
        refine ⟨b, S _ (Ev.pos (decide_eq_true c1) (Ev.step (fun k => spec_l18Good.j2.eq_2 ..) (Ev.neg (fun h => c2 (of_decide_eq_true h)) b1))), I _ (Ev.pos (decide_eq_true c1) (Ev.step (fun k => impl_IsValidGate.j2.eq_2 ..) (Ev.neg (fun h => c2 (of_decide_eq_true h)) b2))), fun h j h1 h2 => ?_⟩
        rcases Nat.lt_or_ge i j with q | q
        · exact (b3 h).1 j q h2
        · obtain rfl : j = i := by omega
          refine ⟨c1, by omega, fun x hxm => ?_⟩
          obtain ⟨p, p1, p2⟩ := mem_rd _ x hxm
          rw [← p2]
          exact (b3 h).2 p (by omega) p1
    · exact ⟨false, S _ (Ev.neg (fun h => c1 (of_decide_eq_true h)) (sj _ rfl)), I _ (Ev.neg (fun h => c1 (of_decide_eq_true h)) (ij _ rfl)), fun h => by cases h⟩
/-- Both tests of a gate. -/
theorem gateBoth (c : List Int) (sl : List (List Int)) (hc : c.length ≤ 1048577) (hs : sl.length ≤ 1048577) (hx : ∀ x ∈ sl, x.length ≤ 1048577) : ∃ b : Bool, Ev (fun k => spec_l18Good.f k c sl) b ∧ Ev (fun k => impl_IsValidGate.f k c sl) b ∧ (b = true → 1 ≤ sl.length ∧ sl.length ≤ 12 ∧ c.length = sl.length ∧ Room c sl 0) := by
  unfold spec_l18Good.f impl_IsValidGate.f
  have sj : ∀ z : Bool, z = true → Ev (fun k => spec_l18Good.j0 k z c sl) false := fun z hz => Ev.step (fun k => spec_l18Good.j0.eq_2 ..) (Ev.pos hz (Ev.now _))
  have ij : ∀ z : Bool, z = true → Ev (fun k => impl_IsValidGate.j0 k z c sl) false := fun z hz => Ev.step (fun k => impl_IsValidGate.j0.eq_2 ..) (Ev.pos hz (Ev.now _))
  by_cases c1 : 1 ≤ (c.length : Int) ∧ (c.length : Int) ≤ 12
  · by_cases c2 : (sl.length : Int) = (c.length : Int)
    · have ne : ((sl.length : Int) != (c.length : Int)) = false := by rw [c2]; simp
      obtain ⟨b, b1, b2, b3⟩ := gateOuter c sl (by omega) (by omega) hx sl.length 0 (by omega) [] 0 (by omega) rfl (fun x => ⟨fun h => (by cases h), fun ⟨j, h, _⟩ => by omega⟩)
      refine ⟨b, Ev.const (l1In_eq _ _ _) (Ev.pos (decide_eq_true c1) (Ev.step (fun k => spec_l18Good.j0.eq_2 ..) (Ev.neg (by rw [ne]; exact fun h => by cases h) b1))), Ev.const (within_eq _ _ _) (Ev.pos (decide_eq_true c1) (Ev.step (fun k => impl_IsValidGate.j0.eq_2 ..) (Ev.neg (by rw [ne]; exact fun h => by cases h) b2))), fun h => ⟨by omega, by omega, by omega, b3 h⟩⟩
    · have ne : ((sl.length : Int) != (c.length : Int)) = true := by simp; omega
      exact ⟨false, Ev.const (l1In_eq _ _ _) (Ev.pos (decide_eq_true c1) (sj _ ne)), Ev.const (within_eq _ _ _) (Ev.pos (decide_eq_true c1) (ij _ ne)), fun h => by cases h⟩
  · exact ⟨false, Ev.const (l1In_eq _ _ _) (Ev.neg (fun h => c1 (of_decide_eq_true h)) (sj _ rfl)), Ev.const (within_eq _ _ _) (Ev.neg (fun h => c1 (of_decide_eq_true h)) (ij _ rfl)), fun h => by cases h⟩


theorem contains_eq (l : List Int) (hl : l.length ≤ 1000000000) (a : Int) : Ev (fun k => slices_Contains_int.f k l a) (decide (a ∈ l)) := by
  unfold slices_Contains_int.f slices_Index_int.f
  have main : ∀ d i : Nat, i + d = l.length → ∃ t : Int, Ev (fun k => slices_Index_int.l0 k l a l.length i) t ∧ (decide (t ≥ 0) = decide (a ∈ l.drop i)) := by
    intro d
    induction d with
    | zero =>
      intro i hi
      exact ⟨-1, Ev.step (fun k => slices_Index_int.l0.eq_2 ..) (Ev.neg (by omega) (Ev.now _)), by simp [List.drop_of_length_le (show l.length ≤ i by omega)]⟩
    | succ d ih =>
      intro i hi
      have w1 : wrap64 ((i : Int) + 1) = ((i + 1 : Nat) : Int) := by rw [w64 (by omega) (by omega)]; rfl
      have e : rd l (i : Int) = l[i]'(by omega) := by
        unfold rd
        rw [Int.toNat_natCast]
        exact getD_of (List.getElem?_eq_getElem (by omega))
      rw [List.drop_eq_getElem_cons (by omega)]
      by_cases c : a = l[i]'(by omega)
      · refine ⟨i, Ev.step (fun k => slices_Index_int.l0.eq_2 ..) (Ev.pos (by omega) (Ev.pos (by omega) (Ev.pos (by omega) ?_))), by rw [decide_eq_true (show (i : Int) ≥ 0 by omega), decide_eq_true (List.mem_cons.2 (Or.inl c))]⟩
        rw [e]
        exact Ev.pos c (Ev.now _)
      · obtain ⟨t, t1, t2⟩ := ih (i + 1) (by omega)
        refine ⟨t, Ev.step (fun k => slices_Index_int.l0.eq_2 ..) (Ev.pos (by omega) (Ev.pos (by omega) (Ev.pos (by omega) ?_))), by rw [t2]; exact decide_eq_decide.2 ⟨fun h => List.mem_cons_of_mem _ h, fun h => (List.mem_cons.1 h).resolve_left c⟩⟩
        rw [e, w1]
        exact Ev.neg c t1
  obtain ⟨t, t1, t2⟩ := main l.length 0 (by omega)
  refine Ev.bind t1 (Ev.eq (Ev.now _) ?_)
  rw [t2]
  rfl

/-- The program's search for a truck's slot, and the reference's. -/
theorem slot18 (c : List Int) (sl : List (List Int)) (hs : sl.length ≤ 1048577) (hx : ∀ x ∈ sl, x.length ≤ 1048577) (v : Int) : ∀ d i : Nat, i + d = sl.length → ∃ t : Int, Ev (fun k => slices_IndexFunc_int_48.l0 k sl sl.length i v) t ∧ Ev (fun k => spec_l18Find.l0 k v i c sl) t := by
  intro d
  induction d with
  | zero =>
    intro i hi
    exact ⟨-1, Ev.step (fun k => slices_IndexFunc_int_48.l0.eq_2 ..) (Ev.neg (by omega) (Ev.now _)), Ev.step (fun k => spec_l18Find.l0.eq_2 ..) (Ev.neg (by omega) (Ev.now _))⟩
  | succ d ih =>
    intro i hi
    have li : (i : Int) < sl.length := by omega
    have i0 : (0 : Int) ≤ i := by omega
    have w1 : wrap64 ((i : Int) + 1) = ((i + 1 : Nat) : Int) := by rw [w64 (by omega) (by omega)]; rfl
    have hl := hx _ (slotMem sl i (by omega))
    have ha := has_eq (rd_L1 sl i) (by omega) v
    have hb : Ev (fun k => impl_slotOfTruck_1.f k (rd_L1 sl i) v) (decide (v ∈ rd_L1 sl i)) := by
      unfold impl_slotOfTruck_1.f
      exact Ev.bind (contains_eq (rd_L1 sl i) (by omega) v) (Ev.now _)
    by_cases q : v ∈ rd_L1 sl i
    · exact ⟨i, Ev.step (fun k => slices_IndexFunc_int_48.l0.eq_2 ..) (Ev.pos li (Ev.pos i0 (Ev.pos li (Ev.bind hb (Ev.pos (decide_eq_true q) (Ev.now _)))))), Ev.step (fun k => spec_l18Find.l0.eq_2 ..) (Ev.pos li (Ev.pos i0 (Ev.bind ha (Ev.pos (decide_eq_true q) (Ev.now _)))))⟩
    · obtain ⟨t, h1, h2⟩ := ih (i + 1) (by omega)
      rw [← w1] at h1 h2
      exact ⟨t, Ev.step (fun k => slices_IndexFunc_int_48.l0.eq_2 ..) (Ev.pos li (Ev.pos i0 (Ev.pos li (Ev.bind hb (Ev.neg (fun h => q (of_decide_eq_true h)) h1))))), Ev.step (fun k => spec_l18Find.l0.eq_2 ..) (Ev.pos li (Ev.pos i0 (Ev.bind ha (Ev.neg (fun h => q (of_decide_eq_true h)) h2))))⟩
theorem truckSlot (c : List Int) (sl : List (List Int)) (hc : c.length ≤ 1048577) (hs : sl.length ≤ 1048577) (hx : ∀ x ∈ sl, x.length ≤ 1048577) (v : Int) : ∃ r : Int × Bool, Ev (fun k => spec_TruckSlot.f k c sl v) r ∧ Ev (fun k => impl_TruckSlot.f k c sl v) r := by
  obtain ⟨b, b1, b2, b3⟩ := gateBoth c sl hc hs hx
  obtain ⟨t, t1, t2⟩ := slot18 c sl hs hx v sl.length 0 (by omega)
  obtain ⟨t', t3, t4⟩ := find18 c sl hs hx v sl.length 0 (by omega)
  obtain rfl := Ev.funct t2 t3
  have F : Ev (fun k => spec_l18Find.f k c sl v) t := by unfold spec_l18Find.f; exact t2
  have T : Ev (fun k => impl_slotOfTruck.f k c sl v) t := by
    unfold impl_slotOfTruck.f slices_IndexFunc_int_48.f
    exact Ev.bind t1 (Ev.now _)
  have E : Ev (fun k => slices_ContainsFunc_int.f k [] c sl) false := by
    unfold slices_ContainsFunc_int.f slices_IndexFunc_int_58.f
    exact Ev.bind (Ev.step (fun k => slices_IndexFunc_int_58.l0.eq_2 ..) (Ev.neg (by simp) (Ev.now (-1)))) (Ev.eq (Ev.now _) rfl)
  unfold spec_TruckSlot.f impl_TruckSlot.f impl_isGateFor.f
  by_cases cb : b = true
  · obtain ⟨_, _, _, hr⟩ := b3 cb
    by_cases ct : t < 0
    · refine ⟨(0, false), Ev.bind b1 (Ev.pos cb (Ev.bind F (Ev.pos ct (Ev.now _)))), Ev.bind T ?_⟩
      by_cases cv : 1 ≤ v ∧ v ≤ 99
      · exact Ev.bind (Ev.bind b2 (Ev.pos cb (Ev.const (within_eq _ _ _) (Ev.pos (decide_eq_true cv) (Ev.bind E (Ev.now _)))))) (Ev.pos rfl (Ev.pos ct (Ev.now _)))
      · exact Ev.bind (Ev.bind b2 (Ev.pos cb (Ev.const (within_eq _ _ _) (Ev.neg (fun h => cv (of_decide_eq_true h)) (Ev.now _))))) (Ev.neg (fun h => by cases h) (Ev.now _))
    · have cv : 1 ≤ v ∧ v ≤ 99 := by
        rcases t4 with ⟨e, _⟩ | ⟨m, e, _, m2, m3, _⟩
        · omega
        · exact (hr m (by omega) m2).2.2 v m3
      exact ⟨(t, true), Ev.bind b1 (Ev.pos cb (Ev.bind F (Ev.neg ct (Ev.bind F (Ev.now _))))), Ev.bind T (Ev.bind (Ev.bind b2 (Ev.pos cb (Ev.const (within_eq _ _ _) (Ev.pos (decide_eq_true cv) (Ev.bind E (Ev.now _)))))) (Ev.pos rfl (Ev.neg ct (Ev.now _))))⟩
  · exact ⟨(0, false), Ev.bind b1 (Ev.neg cb (Ev.now _)), Ev.bind T (Ev.bind (Ev.bind b2 (Ev.neg cb (Ev.now _))) (Ev.neg (fun h => by cases h) (Ev.now _)))⟩

theorem FnExactTruckSlot : ∀ (y0 : S25) (a1 : Int), inv25 y0 → (Lit.int .i64 a1).wf = true → ∃ k, laws_FnExactTruckSlot.f k y0.f0 y0.f1 a1 = some true := by
  intro y0 a1 ⟨⟨hc, _⟩, hl, hx⟩ _
  refine Ev.rounds ?_
  unfold laws_FnExactTruckSlot.f
  obtain ⟨z, z1, z2⟩ := szGate y0.f0 y0.f1 hc hl (fun x h => (hx x h).1)
  refine Ev.bind z1 ?_
  by_cases hz : z < 0
  · exact Ev.pos hz (Ev.now _)
  · refine Ev.neg hz ?_
    obtain ⟨n0, n1, n2⟩ := z2 (by omega)
    have tg := toGate y0.f0 y0.f1 n0 n1 n2
    obtain ⟨r, r1, r2⟩ := truckSlot y0.f0 y0.f1 (by omega) (by omega) (fun x h => by have := n2 x h; omega) a1
    refine Ev.bind tg (Ev.bind r1 (Ev.bind tg (Ev.bind r2 (Ev.pos rfl ?_))))
    exact Ev.step (fun k => laws_FnExactTruckSlot.j0.eq_2 ..) (Ev.neg (by simp) (Ev.bind tg (Ev.bind (eqGate _ _ n0 n1 n2) (Ev.pos rfl (Ev.now _)))))
end Go.Proofs.Ytpflhkjdjcfonaa.Pure
