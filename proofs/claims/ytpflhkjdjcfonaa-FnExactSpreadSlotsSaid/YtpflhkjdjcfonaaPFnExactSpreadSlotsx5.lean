-- Written by a program of this session, over the kit's print (wip/xprint.py)
import Derived.Test.YtpflhkjdjcfonaaPFnExactSpreadSlotsx0
import Derived.Test.YtpflhkjdjcfonaaPFnExactSpreadSlotsx4
namespace Go.Proofs.Ytpflhkjdjcfonaa.PFnExactSpreadSlots
open Go.RowKit Go.Proofs.YtpflhkjdjcfonaaW.PrintWords Go.Proofs.YtpflhkjdjcfonaaW.PrintLast Go.Proofs.YtpflhkjdjcfonaaW.PrintMore
attribute [local go_sem] max2_int min2_int max_two min_two max_three min_three max_four min_four   -- for this text's walks alone
set_option linter.unusedVariables false
set_option linter.unusedSimpArgs false

/-! ### impl_IsValidGate: function 11 -/
mutual
def impl_IsValidGate.j0 : Nat → Bool → List Int → List (List Int) → Option (Bool)
  | 0, _, _, _ => none
  | k + 1, x21, x164000, x164001 => if x21 = true then (some false) else (impl_IsValidGate.l0 k ([] : List Int) x164001 (x164001.length : Int) 0 x164000 x164001)
def impl_IsValidGate.l0 : Nat → List Int → List (List Int) → Int → Int → List Int → List (List Int) → Option (Bool)
  | 0, _, _, _, _, _, _ => none
  | k + 1, x3, x24, x25, x26, x164000, x164001 => if x26 < x25 then (if 0 ≤ x26 then (if x26 < (x24.length : Int) then (if x26 < (x164000.length : Int) then ((impl_within.f (rd x164000 x26) 0 6).bind fun t168 => (if t168 = true then (impl_IsValidGate.j2 k x3 (rd_L1 x24 x26) x24 x25 x26 (decide (((rd_L1 x24 x26).length : Int) > (rd x164000 x26))) x164000 x164001) else (impl_IsValidGate.j2 k x3 (rd_L1 x24 x26) x24 x25 x26 true x164000 x164001))) else (none)) else (none)) else (none)) else ((klen.f x3).bind fun t165 => (some (decide (t165 ≤ 30))))
def impl_IsValidGate.j2 : Nat → List Int → List Int → List (List Int) → Int → Int → Bool → List Int → List (List Int) → Option (Bool)
  | 0, _, _, _, _, _, _, _, _ => none
  | k + 1, x3, x5, x24, x25, x26, x47, x164000, x164001 => if x47 = true then (some false) else (impl_IsValidGate.l1 k x3 x5 x24 x25 x26 x5 (x5.length : Int) 0 x164000 x164001)
def impl_IsValidGate.l1 : Nat → List Int → List Int → List (List Int) → Int → Int → List Int → Int → Int → List Int → List (List Int) → Option (Bool)
  | 0, _, _, _, _, _, _, _, _, _, _ => none
  | k + 1, x3, x5, x24, x25, x26, x48, x49, x50, x164000, x164001 => if x50 < x49 then (if 0 ≤ x50 then (if x50 < (x48.length : Int) then ((impl_within.f (rd x48 x50) 1 99).bind fun t171 => (if t171 = true then ((klook.f x3 (rd x48 x50)).bind fun t172 => (if t172 = true then (some false) else (if x50 > 0 then (if 0 ≤ (wrap64 (x50 - 1)) then (if (wrap64 (x50 - 1)) < (x5.length : Int) then (if (rd x48 x50) ≤ (rd x5 (wrap64 (x50 - 1))) then (some false) else ((kput.f x3 (rd x48 x50)).bind fun t174 => (impl_IsValidGate.l1 k t174 x5 x24 x25 x26 x48 x49 (wrap64 (x50 + 1)) x164000 x164001))) else (none)) else (none)) else ((kput.f x3 (rd x48 x50)).bind fun t175 => (impl_IsValidGate.l1 k t175 x5 x24 x25 x26 x48 x49 (wrap64 (x50 + 1)) x164000 x164001))))) else (some false))) else (none)) else (none)) else (impl_IsValidGate.l0 k x3 x24 x25 (wrap64 (x26 + 1)) x164000 x164001)
end
def impl_IsValidGate.f (k : Nat) (l0_0 : List Int) (l0_1 : List (List Int)) : Option (Bool) := (impl_within.f (l0_0.length : Int) 1 12).bind fun t164 => (if t164 = true then (impl_IsValidGate.j0 k ((l0_1.length : Int) != (l0_0.length : Int)) l0_0 l0_1) else (impl_IsValidGate.j0 k true l0_0 l0_1))
theorem impl_IsValidGate.mono_l : ∀ k, (∀ y0 y1 y2, LeO (impl_IsValidGate.j0 k y0 y1 y2) (impl_IsValidGate.j0 (k + 1) y0 y1 y2)) ∧ (∀ y0 y1 y2 y3 y4 y5, LeO (impl_IsValidGate.l0 k y0 y1 y2 y3 y4 y5) (impl_IsValidGate.l0 (k + 1) y0 y1 y2 y3 y4 y5)) ∧ (∀ y0 y1 y2 y3 y4 y5 y6 y7, LeO (impl_IsValidGate.j2 k y0 y1 y2 y3 y4 y5 y6 y7) (impl_IsValidGate.j2 (k + 1) y0 y1 y2 y3 y4 y5 y6 y7)) ∧ (∀ y0 y1 y2 y3 y4 y5 y6 y7 y8 y9, LeO (impl_IsValidGate.l1 k y0 y1 y2 y3 y4 y5 y6 y7 y8 y9) (impl_IsValidGate.l1 (k + 1) y0 y1 y2 y3 y4 y5 y6 y7 y8 y9))
  | 0 => ⟨fun _ _ _ r h => by simp [impl_IsValidGate.j0] at h, fun _ _ _ _ _ _ r h => by simp [impl_IsValidGate.l0] at h, fun _ _ _ _ _ _ _ _ r h => by simp [impl_IsValidGate.j2] at h, fun _ _ _ _ _ _ _ _ _ _ r h => by simp [impl_IsValidGate.l1] at h⟩
  | k + 1 => by
    obtain ⟨ih0, ih1, ih2, ih3⟩ := impl_IsValidGate.mono_l k
    refine ⟨?_, ?_, ?_, ?_⟩
    · intro y0 y1 y2
      unfold impl_IsValidGate.j0
      repeat' first
      | (with_reducible exact ih0 _ _ _)
      | (with_reducible exact ih1 _ _ _ _ _ _)
      | (with_reducible exact ih2 _ _ _ _ _ _ _ _)
      | (with_reducible exact ih3 _ _ _ _ _ _ _ _ _ _)
      | (with_reducible exact LeO.refl _)
      | (with_reducible exact LeO.none _)
      | (with_reducible refine LeO.ite ?_ ?_)
      | (with_reducible refine LeO.bind ?_ (fun _ => ?_))
      | exact ih0 _ _ _
      | exact ih1 _ _ _ _ _ _
      | exact ih2 _ _ _ _ _ _ _ _
      | exact ih3 _ _ _ _ _ _ _ _ _ _
      | exact LeO.none _
      | refine LeO.ite ?_ ?_
      | refine LeO.bind ?_ (fun _ => ?_)
    · intro y0 y1 y2 y3 y4 y5
      unfold impl_IsValidGate.l0
      repeat' first
      | (with_reducible exact ih0 _ _ _)
      | (with_reducible exact ih1 _ _ _ _ _ _)
      | (with_reducible exact ih2 _ _ _ _ _ _ _ _)
      | (with_reducible exact ih3 _ _ _ _ _ _ _ _ _ _)
      | (with_reducible exact LeO.refl _)
      | (with_reducible exact LeO.none _)
      | (with_reducible refine LeO.ite ?_ ?_)
      | (with_reducible refine LeO.bind ?_ (fun _ => ?_))
      | exact ih0 _ _ _
      | exact ih1 _ _ _ _ _ _
      | exact ih2 _ _ _ _ _ _ _ _
      | exact ih3 _ _ _ _ _ _ _ _ _ _
      | exact LeO.none _
      | refine LeO.ite ?_ ?_
      | refine LeO.bind ?_ (fun _ => ?_)
    · intro y0 y1 y2 y3 y4 y5 y6 y7
      unfold impl_IsValidGate.j2
      repeat' first
      | (with_reducible exact ih0 _ _ _)
      | (with_reducible exact ih1 _ _ _ _ _ _)
      | (with_reducible exact ih2 _ _ _ _ _ _ _ _)
      | (with_reducible exact ih3 _ _ _ _ _ _ _ _ _ _)
      | (with_reducible exact LeO.refl _)
      | (with_reducible exact LeO.none _)
      | (with_reducible refine LeO.ite ?_ ?_)
      | (with_reducible refine LeO.bind ?_ (fun _ => ?_))
      | exact ih0 _ _ _
      | exact ih1 _ _ _ _ _ _
      | exact ih2 _ _ _ _ _ _ _ _
      | exact ih3 _ _ _ _ _ _ _ _ _ _
      | exact LeO.none _
      | refine LeO.ite ?_ ?_
      | refine LeO.bind ?_ (fun _ => ?_)
    · intro y0 y1 y2 y3 y4 y5 y6 y7 y8 y9
      unfold impl_IsValidGate.l1
      repeat' first
      | (with_reducible exact ih0 _ _ _)
      | (with_reducible exact ih1 _ _ _ _ _ _)
      | (with_reducible exact ih2 _ _ _ _ _ _ _ _)
      | (with_reducible exact ih3 _ _ _ _ _ _ _ _ _ _)
      | (with_reducible exact LeO.refl _)
      | (with_reducible exact LeO.none _)
      | (with_reducible refine LeO.ite ?_ ?_)
      | (with_reducible refine LeO.bind ?_ (fun _ => ?_))
      | exact ih0 _ _ _
      | exact ih1 _ _ _ _ _ _
      | exact ih2 _ _ _ _ _ _ _ _
      | exact ih3 _ _ _ _ _ _ _ _ _ _
      | exact LeO.none _
      | refine LeO.ite ?_ ?_
      | refine LeO.bind ?_ (fun _ => ?_)
theorem impl_IsValidGate.mono : ∀ a0 a1 k, LeO (impl_IsValidGate.f k a0 a1) (impl_IsValidGate.f (k + 1) a0 a1) := by
  intro a0 a1 k
  obtain ⟨ih0, ih1, ih2, ih3⟩ := impl_IsValidGate.mono_l k
  unfold impl_IsValidGate.f
  repeat' first
      | (with_reducible exact ih0 _ _ _)
      | (with_reducible exact ih1 _ _ _ _ _ _)
      | (with_reducible exact ih2 _ _ _ _ _ _ _ _)
      | (with_reducible exact ih3 _ _ _ _ _ _ _ _ _ _)
      | (with_reducible exact LeO.refl _)
      | (with_reducible exact LeO.none _)
      | (with_reducible refine LeO.ite ?_ ?_)
      | (with_reducible refine LeO.bind ?_ (fun _ => ?_))
      | exact ih0 _ _ _
      | exact ih1 _ _ _ _ _ _
      | exact ih2 _ _ _ _ _ _ _ _
      | exact ih3 _ _ _ _ _ _ _ _ _ _
      | exact LeO.none _
      | refine LeO.ite ?_ ?_
      | refine LeO.bind ?_ (fun _ => ?_)
set_option maxHeartbeats 8000000 in
set_option maxRecDepth 100000 in
theorem impl_IsValidGate.calls (k : Nat) (A0_0 : Option Addr) (c0_0 : Nat) (l0_0 : List Int) (A0_1 : Option Addr) (c0_1 : Nat) (l0_1 : List (List Int)) (r : Bool) (w : World) (hr0_0 : Kd.C (Kd.int .i64) w A0_0 l0_0.length l0_0) (hc0_0 : l0_0.length ≤ c0_0) (hr0_1 : Kd.C (Kd.slice 3 (Kd.int .i64)) w A0_1 l0_1.length l0_1) (hc0_1 : l0_1.length ≤ c0_1) (h : impl_IsValidGate.f k l0_0 l0_1 = some r) :
    Calls Try.prog 11 #[.agg #[.slice A0_0 l0_0.length c0_0, .slice A0_1 l0_1.length c0_1]] w fun e w' => e = .returned (.bool r) ∧ Below w.heap.size w w' := by
  have hu28 := Try.underlying28
  have HR0_0 := Aside0.mk hr0_0
  have HC0_0 := Aside0.mk hc0_0
  clear hr0_0 hc0_0
  have HR0_1 := Aside0.mk hr0_1
  have HC0_1 := Aside0.mk hc0_1
  clear hr0_1 hc0_1
  have HB := Aside0.mk (Below.refl w.heap.size w)
  have H : ((impl_within.f (l0_0.length : Int) 1 12).bind fun t164 => (if t164 = true then (impl_IsValidGate.j0 k ((l0_1.length : Int) != (l0_0.length : Int)) l0_0 l0_1) else (impl_IsValidGate.j0 k true l0_0 l0_1))) = some r := h
  clear h
  have HC2 := Aside0.mk H
  clear H
  have hmm := @run_makeMap Try.prog
  go_enter Try.func11, Try.ntmps11
  go_upto_region 1 with (first | ((with_reducible refine gate_dst (N := 1) rfl ?_); (try (refine gate_guard (by rfl) ?_; dsimp only)); refine box_event ?hg (N := 1) ?hd (cs := #[.slice A0_0 l0_0.length c0_0, .slice A0_1 l0_1.length c0_1]) (t := 28) ?hr ?_; (case hd => rfl); (case hg => rfl); (case hr => first | (go_simp; done) | (go_simp; rfl)); intro gb163 hg w3 hbox hb; have n0_ := Aside0.mk (below_step (by repeat (first | (with_reducible first | exact HB.out | apply below_alloc | apply pw_below_drewN | apply below_drew1) | exact HB.out)) hb); have n1_ := Aside0.mk (hbox); have n2_ := Aside0.mk ((by rw [hg]; exact (below_size (by repeat (first | (with_reducible first | exact HB.out | apply below_alloc | apply pw_below_drewN | apply below_drew1) | exact HB.out))) : w.heap.size ≤ gb163)); have n3_ := Aside0.mk ((by rw [hg]; exact (below_size (by repeat (first | (with_reducible first | exact HB.out | apply below_alloc | apply pw_below_drewN | apply below_drew1) | exact HB.out))) : w.heap.size ≤ gb163)); clear HB; have HB := n0_; have BK163 := n1_; have GW163 := n2_; have GE163 := n3_; clear n0_ n1_ n2_ n3_; clear hb hbox hg))
  (try simp only [Act.put, List.setIfInBounds_toArray, List.set_cons_zero, List.set_cons_succ])
  go_cut [21] (fun v21 wc => ∃ (kq : Nat) (x21_1 : Bool), v21 = .bool x21_1 ∧ Aside0 (impl_IsValidGate.j0 kq x21_1 l0_0 l0_1 = some r) ∧ Aside0 (kq ≤ k) ∧ Aside0 (wc.heap[gb163]? = some (.cells #[(.slice A0_0 l0_0.length c0_0), (.slice A0_1 l0_1.length c0_1)] 28 (0, 0))) ∧ Aside0 (Below w.heap.size w wc))
  case first =>
    have H := HC2.out
    clear HC2
    replace H := Option.bind_eq_some_iff.mp H
    obtain ⟨t164, A40, H⟩ := H
    replace H : (if t164 = true then (impl_IsValidGate.j0 k ((l0_1.length : Int) != (l0_0.length : Int)) l0_0 l0_1) else (impl_IsValidGate.j0 k true l0_0 l0_1)) = some r := H
    have A4 := Aside0.mk A40
    clear A40
    by_cases c5 : t164 = true
    · subst c5
      have H1 : (impl_IsValidGate.j0 k ((l0_1.length : Int) != (l0_0.length : Int)) l0_0 l0_1) = some r := by rw [if_pos rfl] at H; exact H
      clear H
      have H := H1
      clear H1
      have H' := Aside0.mk H
      clear H
      have hcz6_0 : w3.cell? ⟨gb163, 0, none⟩ = some (.slice A0_0 l0_0.length c0_0) := (blk_cell BK163.out 0).trans rfl
      have hcz6_1 : w3.cell? ⟨gb163, 1, none⟩ = some (.slice A0_1 l0_1.length c0_1) := (blk_cell BK163.out 1).trans rfl
      have hfz6_0 := blk_frozen BK163.out 0
      have hfz6_1 := blk_frozen BK163.out 1
      go_wp2_with (first | ((with_reducible refine gate_callee (f := 28) rfl ?_); refine goesL_ (some 11) rfl rfl Try.func28 (by kernel_rfl) rfl #[.int .i64 (l0_0.length : Int), .int .i64 1, .int .i64 12] rfl (by (try simp only [List.map_toArray, List.map_cons, List.map_nil]); first | done | rfl | (simp only [List.length_drop, List.length_take]; rfl)) ?_; (with_reducible refine (impl_within.calls (l0_0.length : Int) 1 12 true _ A4.out).mono ?_); rintro e w' ⟨rfl, ⟨nd, rfl⟩⟩; refine ⟨_, rfl, ?_⟩))
      go_meet
      case rel => exact ⟨_, (((l0_1.length : Int) != (l0_0.length : Int))), (by first | rfl | (simp; done) | (simp [*]; done)), H', ⟨by first | omega | exact Nat.le_refl _⟩, ⟨by (with_reducible repeat (first | refine blk_drewN ?_ _ | refine blk_drew ?_ | refine blk_alloc ?_ _)); exact BK163.out⟩, ⟨by repeat (first | (with_reducible first | exact HB.out | apply below_alloc | apply pw_below_drewN | apply below_drew1 | refine below_set ?_ GE163.out) | exact HB.out)⟩⟩
    · replace c5 := Bool.eq_false_iff.mpr c5
      subst c5
      have H1 : (impl_IsValidGate.j0 k true l0_0 l0_1) = some r := by rw [if_neg (show ¬ (false = true) by decide)] at H; exact H
      clear H
      have H := H1
      clear H1
      have H' := Aside0.mk H
      clear H
      have hcz7_0 : w3.cell? ⟨gb163, 0, none⟩ = some (.slice A0_0 l0_0.length c0_0) := (blk_cell BK163.out 0).trans rfl
      have hcz7_1 : w3.cell? ⟨gb163, 1, none⟩ = some (.slice A0_1 l0_1.length c0_1) := (blk_cell BK163.out 1).trans rfl
      have hfz7_0 := blk_frozen BK163.out 0
      have hfz7_1 := blk_frozen BK163.out 1
      go_wp2_with (first | ((with_reducible refine gate_callee (f := 28) rfl ?_); refine goesL_ (some 11) rfl rfl Try.func28 (by kernel_rfl) rfl #[.int .i64 (l0_0.length : Int), .int .i64 1, .int .i64 12] rfl (by (try simp only [List.map_toArray, List.map_cons, List.map_nil]); first | done | rfl | (simp only [List.length_drop, List.length_take]; rfl)) ?_; (with_reducible refine (impl_within.calls (l0_0.length : Int) 1 12 false _ A4.out).mono ?_); rintro e w' ⟨rfl, ⟨nd, rfl⟩⟩; refine ⟨_, rfl, ?_⟩))
      go_meet
      case rel => exact ⟨_, (true), (by first | rfl | (simp; done) | (simp [*]; done)), H', ⟨by first | omega | exact Nat.le_refl _⟩, ⟨by (with_reducible repeat (first | refine blk_drewN ?_ _ | refine blk_drew ?_ | refine blk_alloc ?_ _)); exact BK163.out⟩, ⟨by repeat (first | (with_reducible first | exact HB.out | apply below_alloc | apply pw_below_drewN | apply below_drew1 | refine below_set ?_ GE163.out) | exact HB.out)⟩⟩
  case rest =>
    clear HC2
    try clear c1
    try clear c2
    try clear p2
    try clear c5
    try clear hcz6_0
    try clear hcz6_1
    try clear hcz7_0
    try clear hcz7_1
    try clear hfz6_0
    try clear hfz6_1
    try clear hfz7_0
    try clear hfz7_1
    obtain ⟨kq, x21_1, rfl, HA, HJ1, BK163, HB⟩ := hcut
    cases kq with
    | zero => exact absurd HA.out (by simp [impl_IsValidGate.j0])
    | succ kj1 =>
      have H := HA.out
      clear HA
      simp only [impl_IsValidGate.j0] at H
      by_cases c8 : x21_1 = true
      · subst c8
        have H1 : (some false) = some r := by rw [if_pos rfl] at H; exact H
        clear H
        have H := H1
        clear H1
        obtain rfl := Option.some.inj H
        go_wp2
        go_ret
        exact ⟨by first | rfl | (simp [errW_none, errW_some] <;> rfl) | (simp [*, errW_none, errW_some] <;> rfl), by repeat (first | (with_reducible first | exact HB.out | apply below_alloc | apply pw_below_drewN | apply below_drew1 | refine below_set ?_ GE163.out) | exact HB.out)⟩
      · replace c8 := Bool.eq_false_iff.mpr c8
        subst c8
        have H1 : (impl_IsValidGate.l0 kj1 ([] : List Int) l0_1 (l0_1.length : Int) 0 l0_0 l0_1) = some r := by rw [if_neg (show ¬ (false = true) by decide)] at H; exact H
        clear H
        have H := H1
        clear H1
        have H' := Aside0.mk H
        clear H
        have hcz9_0 : wc.cell? ⟨gb163, 0, none⟩ = some (.slice A0_0 l0_0.length c0_0) := (blk_cell BK163.out 0).trans rfl
        have hcz9_1 : wc.cell? ⟨gb163, 1, none⟩ = some (.slice A0_1 l0_1.length c0_1) := (blk_cell BK163.out 1).trans rfl
        have hfz9_0 := blk_frozen BK163.out 0
        have hfz9_1 := blk_frozen BK163.out 1
        obtain ⟨mb, hmb⟩ : ∃ m_ : Nat, wc.heap.size = m_ := ⟨_, rfl⟩
        have HGE := Aside0.mk (show w.heap.size ≤ mb from by rw [← hmb]; exact HB.out.size)
        have HGB := Aside0.mk (show gb163 < mb from by rw [← hmb]; exact blk_lt BK163.out)
        have hcz9_0a : (wc.alloc (.map #[] 0)).cell? ⟨gb163, 0, none⟩ = some (.slice A0_0 l0_0.length c0_0) := (blk_cell (blk_alloc BK163.out _) 0).trans rfl
        have hfz9_0b := blk_frozen (blk_alloc BK163.out (.map #[] 0)) 0
        have hcz9_1a : (wc.alloc (.map #[] 0)).cell? ⟨gb163, 1, none⟩ = some (.slice A0_1 l0_1.length c0_1) := (blk_cell (blk_alloc BK163.out _) 1).trans rfl
        have hfz9_1b := blk_frozen (blk_alloc BK163.out (.map #[] 0)) 1
        go_wp2
        (try rw [hmb])
        clear hmm
        clear hcz9_0a
        (try clear hfz9_0b)
        clear hcz9_1a
        (try clear hfz9_1b)
        go_loopg [26] kj1 (fun kq v26 w' => ∃ (x3_2 : List Int) (x26_2 : Int), v26 = .int .i64 x26_2 ∧ Aside0 (impl_IsValidGate.l0 kq x3_2 l0_1 (l0_1.length : Int) x26_2 l0_0 l0_1 = some r) ∧ Aside0 (kq ≤ kj1) ∧ Aside0 (w'.heap[gb163]? = some (.cells #[(.slice A0_0 l0_0.length c0_0), (.slice A0_1 l0_1.length c0_1)] 28 (0, 0))) ∧ Aside0 (Below w.heap.size w w') ∧ Aside0 (MapSet Try.prog 3 4 mb w' x3_2))
        case atStart => exact ⟨([] : List Int), (0), (by first | rfl | (simp; done) | (simp [*]; done)), H', ⟨Nat.le_refl _⟩, ⟨by (with_reducible repeat (first | refine blk_drewN ?_ _ | refine blk_drew ?_ | refine blk_alloc ?_ _)); exact BK163.out⟩, ⟨by repeat (first | (with_reducible first | exact HB.out | apply below_alloc | apply pw_below_drewN | apply below_drew1 | refine below_set ?_ GE163.out) | exact HB.out)⟩, ⟨by rw [← hmb]; exact MapSet_made _ _ _ _⟩⟩
        case round =>
          clear H'
          try clear c1
          try clear c2
          try clear p2
          try clear c5
          try clear c8
          try clear hcz6_0
          try clear hcz6_1
          try clear hcz7_0
          try clear hcz7_1
          try clear hcz9_0
          try clear hcz9_1
          try clear hfz6_0
          try clear hfz6_1
          try clear hfz7_0
          try clear hfz7_1
          try clear hfz9_0
          try clear hfz9_1
          try clear p2
          obtain ⟨x3_2, x26_2, rfl, HA, HK2, BK163, HB, HM⟩ := hrel
          cases gk with
          | zero => exact absurd HA.out (by simp [impl_IsValidGate.l0])
          | succ k2 =>
            have H := HA.out
            clear HA
            simp only [impl_IsValidGate.l0] at H
            by_cases c10 : x26_2 < (l0_1.length : Int)
            · rw [if_pos c10] at H
              have c10b0 : decide (x26_2 < (l0_1.length : Int)) = true := decide_eq_true c10
              clear c10
              by_cases c11 : 0 ≤ x26_2
              · rw [if_pos c11] at H
                have c11b0 : decide (0 ≤ x26_2) = true := decide_eq_true c11
                clear c11
                by_cases c12 : x26_2 < (l0_1.length : Int)
                · rw [if_pos c12] at H
                  have c12b0 : decide (x26_2 < (l0_1.length : Int)) = true := decide_eq_true c12
                  clear c12
                  have HC13 := Aside0.mk H
                  clear H
                  have p166 : 0 ≤ (x26_2 : Int) := of_decide_eq_true (by first | (with_reducible assumption) | assumption)
                  have q166 : x26_2 < (l0_1.length : Int) := of_decide_eq_true (by first | (with_reducible assumption) | assumption)
                  obtain ⟨ad166, A166_0, c166_0, e166, hx166_0, hl166_0, hi166_0⟩ := at_L1 HR0_1.out x26_2 p166 q166
                  cases e166
                  replace hx166_0 := (HB.out.cell (World.block_lt_of_cell? w _ hx166_0)).trans hx166_0
                  have HR166_0 := Aside0.mk hi166_0
                  have HC166_0 := Aside0.mk hl166_0
                  clear hi166_0 hl166_0
                  replace p166 := eq_true p166
                  replace q166 := eq_true q166
                  go_upto_region 7 with (fail)
                  go_cut [47] (fun v47 wc => ∃ (kq : Nat) (x47_12 : Bool), v47 = .bool x47_12 ∧ Aside0 (impl_IsValidGate.j2 kq x3_2 (rd_L1 l0_1 x26_2) l0_1 (l0_1.length : Int) x26_2 x47_12 l0_0 l0_1 = some r) ∧ Aside0 (kq ≤ k2) ∧ Aside0 (wc.heap[gb163]? = some (.cells #[(.slice A0_0 l0_0.length c0_0), (.slice (some ad166) l0_1.length c0_1)] 28 (0, 0))) ∧ Aside0 (Below w.heap.size w wc) ∧ Aside0 (MapSet Try.prog 3 4 mb wc x3_2))
                  case first =>
                    have H := HC13.out
                    clear HC13
                    by_cases c14 : x26_2 < (l0_0.length : Int)
                    · rw [if_pos c14] at H
                      have c14b0 : decide (x26_2 < (l0_0.length : Int)) = true := decide_eq_true c14
                      clear c14
                      (first | rw [c14b0] | (simp only [i64_w, i32_w]; rw [c14b0]) | skip)
                      replace H := Option.bind_eq_some_iff.mp H
                      obtain ⟨t168, A150, H⟩ := H
                      replace H : (if t168 = true then (impl_IsValidGate.j2 k2 x3_2 (rd_L1 l0_1 x26_2) l0_1 (l0_1.length : Int) x26_2 (decide (((rd_L1 l0_1 x26_2).length : Int) > (rd l0_0 x26_2))) l0_0 l0_1) else (impl_IsValidGate.j2 k2 x3_2 (rd_L1 l0_1 x26_2) l0_1 (l0_1.length : Int) x26_2 true l0_0 l0_1)) = some r := H
                      have A15 := Aside0.mk A150
                      clear A150
                      by_cases c16 : t168 = true
                      · subst c16
                        have H1 : (impl_IsValidGate.j2 k2 x3_2 (rd_L1 l0_1 x26_2) l0_1 (l0_1.length : Int) x26_2 (decide (((rd_L1 l0_1 x26_2).length : Int) > (rd l0_0 x26_2))) l0_0 l0_1) = some r := by rw [if_pos rfl] at H; exact H
                        clear H
                        have H := H1
                        clear H1
                        have H' := Aside0.mk H
                        clear H
                        have hcz17_0 : wr.cell? ⟨gb163, 0, none⟩ = some (.slice A0_0 l0_0.length c0_0) := (blk_cell BK163.out 0).trans rfl
                        have hcz17_1 : wr.cell? ⟨gb163, 1, none⟩ = some (.slice (some ad166) l0_1.length c0_1) := (blk_cell BK163.out 1).trans rfl
                        have hfz17_0 := blk_frozen BK163.out 0
                        have hfz17_1 := blk_frozen BK163.out 1
                        have p167 : 0 ≤ (x26_2 : Int) := of_decide_eq_true (by first | (with_reducible assumption) | assumption)
                        have q167 : x26_2 < (l0_0.length : Int) := of_decide_eq_true (by first | (with_reducible assumption) | assumption)
                        obtain ⟨ad167, e167, hx167_0⟩ := Kd.at_int HR0_0.out x26_2 p167 q167
                        cases e167
                        replace hx167_0 := (HB.out.cell (World.block_lt_of_cell? w _ hx167_0)).trans hx167_0
                        replace p167 := eq_true p167
                        replace q167 := eq_true q167
                        go_wp2_with (first | ((with_reducible refine gate_callee (f := 28) rfl ?_); refine goesL_ (some 36) rfl rfl Try.func28 (by kernel_rfl) rfl #[.int .i64 (rd l0_0 x26_2), .int .i64 0, .int .i64 6] rfl (by (try simp only [List.map_toArray, List.map_cons, List.map_nil]); first | done | rfl | (simp only [List.length_drop, List.length_take]; rfl)) ?_; (with_reducible refine (impl_within.calls (rd l0_0 x26_2) 0 6 true _ A15.out).mono ?_); rintro e w' ⟨rfl, ⟨nd, rfl⟩⟩; refine ⟨_, rfl, ?_⟩; have p169 : 0 ≤ (x26_2 : Int) := of_decide_eq_true (by first | (with_reducible assumption) | assumption); have q169 : x26_2 < (l0_0.length : Int) := of_decide_eq_true (by first | (with_reducible assumption) | assumption); obtain ⟨ad169, e169, hx169_0⟩ := Kd.at_int HR0_0.out x26_2 p169 q169; obtain rfl : ad167 = ad169 := (by injection e169); replace hx169_0 := (HB.out.cell (World.block_lt_of_cell? w _ hx169_0)).trans hx169_0; replace p169 := eq_true p169; replace q169 := eq_true q169))
                        go_meet
                        case rel => exact ⟨_, (decide (((rd_L1 l0_1 x26_2).length : Int) > (rd l0_0 x26_2))), (by first | rfl | (simp; done) | (simp [*]; done)), H', ⟨by have := HJ1.out; have := HK2.out; first | omega | exact Nat.le_refl _⟩, ⟨by (with_reducible repeat (first | refine blk_drewN ?_ _ | refine blk_drew ?_ | refine blk_alloc ?_ _)); exact BK163.out⟩, ⟨by repeat (first | (with_reducible first | exact HB.out | apply below_alloc | apply pw_below_drewN | apply below_drew1 | refine below_set ?_ GE163.out) | exact HB.out)⟩, ⟨MapSet_below HM.out (by repeat (first | exact Below.refl _ _ | apply pw_below_drewN | apply below_drew1))⟩⟩
                      · replace c16 := Bool.eq_false_iff.mpr c16
                        subst c16
                        have H1 : (impl_IsValidGate.j2 k2 x3_2 (rd_L1 l0_1 x26_2) l0_1 (l0_1.length : Int) x26_2 true l0_0 l0_1) = some r := by rw [if_neg (show ¬ (false = true) by decide)] at H; exact H
                        clear H
                        have H := H1
                        clear H1
                        have H' := Aside0.mk H
                        clear H
                        have hcz18_0 : wr.cell? ⟨gb163, 0, none⟩ = some (.slice A0_0 l0_0.length c0_0) := (blk_cell BK163.out 0).trans rfl
                        have hcz18_1 : wr.cell? ⟨gb163, 1, none⟩ = some (.slice (some ad166) l0_1.length c0_1) := (blk_cell BK163.out 1).trans rfl
                        have hfz18_0 := blk_frozen BK163.out 0
                        have hfz18_1 := blk_frozen BK163.out 1
                        have p167 : 0 ≤ (x26_2 : Int) := of_decide_eq_true (by first | (with_reducible assumption) | assumption)
                        have q167 : x26_2 < (l0_0.length : Int) := of_decide_eq_true (by first | (with_reducible assumption) | assumption)
                        obtain ⟨ad167, e167, hx167_0⟩ := Kd.at_int HR0_0.out x26_2 p167 q167
                        cases e167
                        replace hx167_0 := (HB.out.cell (World.block_lt_of_cell? w _ hx167_0)).trans hx167_0
                        replace p167 := eq_true p167
                        replace q167 := eq_true q167
                        go_wp2_with (first | ((with_reducible refine gate_callee (f := 28) rfl ?_); refine goesL_ (some 36) rfl rfl Try.func28 (by kernel_rfl) rfl #[.int .i64 (rd l0_0 x26_2), .int .i64 0, .int .i64 6] rfl (by (try simp only [List.map_toArray, List.map_cons, List.map_nil]); first | done | rfl | (simp only [List.length_drop, List.length_take]; rfl)) ?_; (with_reducible refine (impl_within.calls (rd l0_0 x26_2) 0 6 false _ A15.out).mono ?_); rintro e w' ⟨rfl, ⟨nd, rfl⟩⟩; refine ⟨_, rfl, ?_⟩))
                        go_meet
                        case rel => exact ⟨_, (true), (by first | rfl | (simp; done) | (simp [*]; done)), H', ⟨by have := HJ1.out; have := HK2.out; first | omega | exact Nat.le_refl _⟩, ⟨by (with_reducible repeat (first | refine blk_drewN ?_ _ | refine blk_drew ?_ | refine blk_alloc ?_ _)); exact BK163.out⟩, ⟨by repeat (first | (with_reducible first | exact HB.out | apply below_alloc | apply pw_below_drewN | apply below_drew1 | refine below_set ?_ GE163.out) | exact HB.out)⟩, ⟨MapSet_below HM.out (by repeat (first | exact Below.refl _ _ | apply pw_below_drewN | apply below_drew1))⟩⟩
                    · rw [if_neg c14] at H
                      exact absurd H (by simp)
                  case rest =>
                    clear HC13
                    try clear c1
                    try clear p1
                    try clear q1
                    try clear hx1
                    try clear c2
                    try clear p2
                    try clear c5
                    try clear c8
                    try clear c10
                    try clear c10b0
                    try clear c11
                    try clear c11b0
                    try clear c12
                    try clear c12b0
                    try clear c14
                    try clear c14b0
                    try clear c16
                    try clear p16
                    try clear q16
                    try clear hx16
                    try clear hcz17_0
                    try clear hcz17_1
                    try clear hcz18_0
                    try clear hcz18_1
                    try clear hcz6_0
                    try clear hcz6_1
                    try clear hcz7_0
                    try clear hcz7_1
                    try clear hcz9_0
                    try clear hcz9_1
                    try clear hfz17_0
                    try clear hfz17_1
                    try clear hfz18_0
                    try clear hfz18_1
                    try clear hfz6_0
                    try clear hfz6_1
                    try clear hfz7_0
                    try clear hfz7_1
                    try clear hfz9_0
                    try clear hfz9_1
                    try clear hx166_0
                    try clear hx167_0
                    try clear hx169_0
                    try clear p166
                    try clear p167
                    try clear p169
                    try clear p2
                    try clear q166
                    try clear q167
                    try clear q169
                    obtain ⟨kq, x47_12, rfl, HA, HJ12, BK163, HB, HM⟩ := hcut
                    cases kq with
                    | zero => exact absurd HA.out (by simp [impl_IsValidGate.j2])
                    | succ kj12 =>
                      have H := HA.out
                      clear HA
                      simp only [impl_IsValidGate.j2] at H
                      by_cases c19 : x47_12 = true
                      · subst c19
                        have H1 : (some false) = some r := by rw [if_pos rfl] at H; exact H
                        clear H
                        have H := H1
                        clear H1
                        obtain rfl := Option.some.inj H
                        go_wp2
                        go_ret
                        exact ⟨by first | rfl | (simp [errW_none, errW_some] <;> rfl) | (simp [*, errW_none, errW_some] <;> rfl), by repeat (first | (with_reducible first | exact HB.out | apply below_alloc | apply pw_below_drewN | apply below_drew1 | refine below_set ?_ GE163.out) | exact HB.out)⟩
                      · replace c19 := Bool.eq_false_iff.mpr c19
                        subst c19
                        have H1 : (impl_IsValidGate.l1 kj12 x3_2 (rd_L1 l0_1 x26_2) l0_1 (l0_1.length : Int) x26_2 (rd_L1 l0_1 x26_2) ((rd_L1 l0_1 x26_2).length : Int) 0 l0_0 l0_1) = some r := by rw [if_neg (show ¬ (false = true) by decide)] at H; exact H
                        clear H
                        have H := H1
                        clear H1
                        have H' := Aside0.mk H
                        clear H
                        go_wp2
                        go_loopg [50] kj12 (fun kq v50 w' => ∃ (x3_4 : List Int) (x50_4 : Int), v50 = .int .i64 x50_4 ∧ Aside0 (impl_IsValidGate.l1 kq x3_4 (rd_L1 l0_1 x26_2) l0_1 (l0_1.length : Int) x26_2 (rd_L1 l0_1 x26_2) ((rd_L1 l0_1 x26_2).length : Int) x50_4 l0_0 l0_1 = some r) ∧ Aside0 (kq ≤ kj12) ∧ Aside0 (w'.heap[gb163]? = some (.cells #[(.slice A0_0 l0_0.length c0_0), (.slice (some ad166) l0_1.length c0_1)] 28 (0, 0))) ∧ Aside0 (Below w.heap.size w w') ∧ Aside0 (MapSet Try.prog 3 4 mb w' x3_4))
                        case atStart => exact ⟨(x3_2), (0), (by first | rfl | (simp; done) | (simp [*]; done)), H', ⟨Nat.le_refl _⟩, ⟨by (with_reducible repeat (first | refine blk_drewN ?_ _ | refine blk_drew ?_ | refine blk_alloc ?_ _)); exact BK163.out⟩, ⟨by repeat (first | (with_reducible first | exact HB.out | apply below_alloc | apply pw_below_drewN | apply below_drew1 | refine below_set ?_ GE163.out) | exact HB.out)⟩, ⟨MapSet_below HM.out (by repeat (first | exact Below.refl _ _ | apply pw_below_drewN | apply below_drew1))⟩⟩
                        case round =>
                          clear H'
                          try clear c1
                          try clear p1
                          try clear q1
                          try clear hx1
                          try clear c2
                          try clear p2
                          try clear c5
                          try clear c8
                          try clear c10
                          try clear c10b0
                          try clear c11
                          try clear c11b0
                          try clear c12
                          try clear c12b0
                          try clear c14
                          try clear c14b0
                          try clear c16
                          try clear p16
                          try clear q16
                          try clear hx16
                          try clear c19
                          try clear hcz17_0
                          try clear hcz17_1
                          try clear hcz18_0
                          try clear hcz18_1
                          try clear hcz6_0
                          try clear hcz6_1
                          try clear hcz7_0
                          try clear hcz7_1
                          try clear hcz9_0
                          try clear hcz9_1
                          try clear hfz17_0
                          try clear hfz17_1
                          try clear hfz18_0
                          try clear hfz18_1
                          try clear hfz6_0
                          try clear hfz6_1
                          try clear hfz7_0
                          try clear hfz7_1
                          try clear hfz9_0
                          try clear hfz9_1
                          try clear hx166_0
                          try clear hx167_0
                          try clear hx169_0
                          try clear p1
                          try clear p16
                          try clear p166
                          try clear p167
                          try clear p169
                          try clear p2
                          try clear q1
                          try clear q16
                          try clear q166
                          try clear q167
                          try clear q169
                          obtain ⟨x3_4, x50_4, rfl, HA, HK4, BK163, HB, HM⟩ := hrel
                          cases gk with
                          | zero => exact absurd HA.out (by simp [impl_IsValidGate.l1])
                          | succ k4 =>
                            have H := HA.out
                            clear HA
                            simp only [impl_IsValidGate.l1] at H
                            by_cases c20 : x50_4 < ((rd_L1 l0_1 x26_2).length : Int)
                            · rw [if_pos c20] at H
                              have c20b0 : decide (x50_4 < ((rd_L1 l0_1 x26_2).length : Int)) = true := decide_eq_true c20
                              clear c20
                              by_cases c21 : 0 ≤ x50_4
                              · rw [if_pos c21] at H
                                have c21b0 : decide (0 ≤ x50_4) = true := decide_eq_true c21
                                clear c21
                                by_cases c22 : x50_4 < ((rd_L1 l0_1 x26_2).length : Int)
                                · rw [if_pos c22] at H
                                  have c22b0 : decide (x50_4 < ((rd_L1 l0_1 x26_2).length : Int)) = true := decide_eq_true c22
                                  clear c22
                                  replace H := Option.bind_eq_some_iff.mp H
                                  obtain ⟨t171, A230, H⟩ := H
                                  replace H : (if t171 = true then ((klook.f x3_4 (rd (rd_L1 l0_1 x26_2) x50_4)).bind fun t172 => (if t172 = true then (some false) else (if x50_4 > 0 then (if 0 ≤ (wrap64 (x50_4 - 1)) then (if (wrap64 (x50_4 - 1)) < ((rd_L1 l0_1 x26_2).length : Int) then (if (rd (rd_L1 l0_1 x26_2) x50_4) ≤ (rd (rd_L1 l0_1 x26_2) (wrap64 (x50_4 - 1))) then (some false) else ((kput.f x3_4 (rd (rd_L1 l0_1 x26_2) x50_4)).bind fun t174 => (impl_IsValidGate.l1 k4 t174 (rd_L1 l0_1 x26_2) l0_1 (l0_1.length : Int) x26_2 (rd_L1 l0_1 x26_2) ((rd_L1 l0_1 x26_2).length : Int) (wrap64 (x50_4 + 1)) l0_0 l0_1))) else (none)) else (none)) else ((kput.f x3_4 (rd (rd_L1 l0_1 x26_2) x50_4)).bind fun t175 => (impl_IsValidGate.l1 k4 t175 (rd_L1 l0_1 x26_2) l0_1 (l0_1.length : Int) x26_2 (rd_L1 l0_1 x26_2) ((rd_L1 l0_1 x26_2).length : Int) (wrap64 (x50_4 + 1)) l0_0 l0_1))))) else (some false)) = some r := H
                                  have A23 := Aside0.mk A230
                                  clear A230
                                  by_cases c24 : t171 = true
                                  · subst c24
                                    have H1 : ((klook.f x3_4 (rd (rd_L1 l0_1 x26_2) x50_4)).bind fun t172 => (if t172 = true then (some false) else (if x50_4 > 0 then (if 0 ≤ (wrap64 (x50_4 - 1)) then (if (wrap64 (x50_4 - 1)) < ((rd_L1 l0_1 x26_2).length : Int) then (if (rd (rd_L1 l0_1 x26_2) x50_4) ≤ (rd (rd_L1 l0_1 x26_2) (wrap64 (x50_4 - 1))) then (some false) else ((kput.f x3_4 (rd (rd_L1 l0_1 x26_2) x50_4)).bind fun t174 => (impl_IsValidGate.l1 k4 t174 (rd_L1 l0_1 x26_2) l0_1 (l0_1.length : Int) x26_2 (rd_L1 l0_1 x26_2) ((rd_L1 l0_1 x26_2).length : Int) (wrap64 (x50_4 + 1)) l0_0 l0_1))) else (none)) else (none)) else ((kput.f x3_4 (rd (rd_L1 l0_1 x26_2) x50_4)).bind fun t175 => (impl_IsValidGate.l1 k4 t175 (rd_L1 l0_1 x26_2) l0_1 (l0_1.length : Int) x26_2 (rd_L1 l0_1 x26_2) ((rd_L1 l0_1 x26_2).length : Int) (wrap64 (x50_4 + 1)) l0_0 l0_1))))) = some r := by rw [if_pos rfl] at H; exact H
                                    clear H
                                    have H := H1
                                    clear H1
                                    replace H := Option.bind_eq_some_iff.mp H
                                    obtain ⟨t172, A250, H⟩ := H
                                    replace H : (if t172 = true then (some false) else (if x50_4 > 0 then (if 0 ≤ (wrap64 (x50_4 - 1)) then (if (wrap64 (x50_4 - 1)) < ((rd_L1 l0_1 x26_2).length : Int) then (if (rd (rd_L1 l0_1 x26_2) x50_4) ≤ (rd (rd_L1 l0_1 x26_2) (wrap64 (x50_4 - 1))) then (some false) else ((kput.f x3_4 (rd (rd_L1 l0_1 x26_2) x50_4)).bind fun t174 => (impl_IsValidGate.l1 k4 t174 (rd_L1 l0_1 x26_2) l0_1 (l0_1.length : Int) x26_2 (rd_L1 l0_1 x26_2) ((rd_L1 l0_1 x26_2).length : Int) (wrap64 (x50_4 + 1)) l0_0 l0_1))) else (none)) else (none)) else ((kput.f x3_4 (rd (rd_L1 l0_1 x26_2) x50_4)).bind fun t175 => (impl_IsValidGate.l1 k4 t175 (rd_L1 l0_1 x26_2) l0_1 (l0_1.length : Int) x26_2 (rd_L1 l0_1 x26_2) ((rd_L1 l0_1 x26_2).length : Int) (wrap64 (x50_4 + 1)) l0_0 l0_1)))) = some r := H
                                    have A25 := Aside0.mk A250
                                    clear A250
                                    by_cases c26 : t172 = true
                                    · subst c26
                                      have H1 : (some false) = some r := by rw [if_pos rfl] at H; exact H
                                      clear H
                                      have H := H1
                                      clear H1
                                      obtain rfl := Option.some.inj H
                                      have p170 : 0 ≤ (x50_4 : Int) := of_decide_eq_true (by first | (with_reducible assumption) | assumption)
                                      have q170 : x50_4 < ((rd_L1 l0_1 x26_2).length : Int) := of_decide_eq_true (by first | (with_reducible assumption) | assumption)
                                      obtain ⟨ad170, e170, hx170_0⟩ := Kd.at_int HR166_0.out x50_4 p170 q170
                                      cases e170
                                      replace hx170_0 := (HB.out.cell (World.block_lt_of_cell? w _ hx170_0)).trans hx170_0
                                      replace p170 := eq_true p170
                                      replace q170 := eq_true q170
                                      go_wp2_with (first | ((with_reducible refine gate_callee (f := 28) rfl ?_); refine goesL_ (some 56) rfl rfl Try.func28 (by kernel_rfl) rfl #[.int .i64 (rd (rd_L1 l0_1 x26_2) x50_4), .int .i64 1, .int .i64 99] rfl (by (try simp only [List.map_toArray, List.map_cons, List.map_nil]); first | done | rfl | (simp only [List.length_drop, List.length_take]; rfl)) ?_; (with_reducible refine (impl_within.calls (rd (rd_L1 l0_1 x26_2) x50_4) 1 99 true _ A23.out).mono ?_); rintro e w' ⟨rfl, ⟨nd, rfl⟩⟩; refine ⟨_, rfl, ?_⟩) | (at_lookup; (try (refine gate_guard (by rfl) ?_; dsimp only)); refine mapSet_look (some 61) rfl rfl (.tmp 59) (.tmp 60) 46 3 4 rfl Try.underlying46 Try.underlying3 Try.underlying4 (fun _ => by kernel_rfl) (MapSet_below HM.out (by repeat (first | exact Below.refl _ _ | apply pw_below_drewN | apply below_drew1))) rfl (rd (rd_L1 l0_1 x26_2) x50_4) rfl _ (klook.of A25.out) ?_))
                                      go_ret
                                      exact ⟨by first | rfl | (simp [errW_none, errW_some] <;> rfl) | (simp [*, errW_none, errW_some] <;> rfl), by repeat (first | (with_reducible first | exact HB.out | apply below_alloc | apply pw_below_drewN | apply below_drew1 | refine below_set ?_ GE163.out) | exact HB.out)⟩
                                    · replace c26 := Bool.eq_false_iff.mpr c26
                                      subst c26
                                      have H1 : (if x50_4 > 0 then (if 0 ≤ (wrap64 (x50_4 - 1)) then (if (wrap64 (x50_4 - 1)) < ((rd_L1 l0_1 x26_2).length : Int) then (if (rd (rd_L1 l0_1 x26_2) x50_4) ≤ (rd (rd_L1 l0_1 x26_2) (wrap64 (x50_4 - 1))) then (some false) else ((kput.f x3_4 (rd (rd_L1 l0_1 x26_2) x50_4)).bind fun t174 => (impl_IsValidGate.l1 k4 t174 (rd_L1 l0_1 x26_2) l0_1 (l0_1.length : Int) x26_2 (rd_L1 l0_1 x26_2) ((rd_L1 l0_1 x26_2).length : Int) (wrap64 (x50_4 + 1)) l0_0 l0_1))) else (none)) else (none)) else ((kput.f x3_4 (rd (rd_L1 l0_1 x26_2) x50_4)).bind fun t175 => (impl_IsValidGate.l1 k4 t175 (rd_L1 l0_1 x26_2) l0_1 (l0_1.length : Int) x26_2 (rd_L1 l0_1 x26_2) ((rd_L1 l0_1 x26_2).length : Int) (wrap64 (x50_4 + 1)) l0_0 l0_1))) = some r := by rw [if_neg (show ¬ (false = true) by decide)] at H; exact H
                                      clear H
                                      have H := H1
                                      clear H1
                                      by_cases c27 : x50_4 > 0
                                      · rw [if_pos c27] at H
                                        have c27b0 : decide (0 < x50_4) = true := decide_eq_true c27
                                        clear c27
                                        obtain ⟨ji28, hji28⟩ : ∃ j_ : Int, (wrap64 (x50_4 - 1)) = j_ := ⟨_, rfl⟩
                                        replace H : (if 0 ≤ (ji28) then (if (ji28) < ((rd_L1 l0_1 x26_2).length : Int) then (if (rd (rd_L1 l0_1 x26_2) x50_4) ≤ (rd (rd_L1 l0_1 x26_2) (ji28)) then (some false) else ((kput.f x3_4 (rd (rd_L1 l0_1 x26_2) x50_4)).bind fun t174 => (impl_IsValidGate.l1 k4 t174 (rd_L1 l0_1 x26_2) l0_1 (l0_1.length : Int) x26_2 (rd_L1 l0_1 x26_2) ((rd_L1 l0_1 x26_2).length : Int) (wrap64 (x50_4 + 1)) l0_0 l0_1))) else (none)) else (none)) = some r := by first | (rw [hji28] at H; exact H) | (simp only [hji28] at H ⊢; exact H)
                                        (try rw [hji28] at A23)
                                        (try rw [hji28] at A25)
                                        have hji28w : (IntKind.i64.wrap (x50_4 - 1)) = ji28 := (i64_w _).trans hji28
                                        by_cases c29 : 0 ≤ (ji28)
                                        · rw [if_pos c29] at H
                                          have c29b0 : decide (0 ≤ (ji28)) = true := decide_eq_true c29
                                          clear c29
                                          by_cases c30 : (ji28) < ((rd_L1 l0_1 x26_2).length : Int)
                                          · rw [if_pos c30] at H
                                            have c30b0 : decide ((ji28) < ((rd_L1 l0_1 x26_2).length : Int)) = true := decide_eq_true c30
                                            clear c30
                                            by_cases c31 : (rd (rd_L1 l0_1 x26_2) x50_4) ≤ (rd (rd_L1 l0_1 x26_2) (ji28))
                                            · rw [if_pos c31] at H
                                              have c31b0 : decide ((rd (rd_L1 l0_1 x26_2) x50_4) ≤ (rd (rd_L1 l0_1 x26_2) (ji28))) = true := decide_eq_true c31
                                              clear c31
                                              obtain rfl := Option.some.inj H
                                              have p170 : 0 ≤ (x50_4 : Int) := of_decide_eq_true (by first | (with_reducible assumption) | assumption)
                                              have q170 : x50_4 < ((rd_L1 l0_1 x26_2).length : Int) := of_decide_eq_true (by first | (with_reducible assumption) | assumption)
                                              obtain ⟨ad170, e170, hx170_0⟩ := Kd.at_int HR166_0.out x50_4 p170 q170
                                              cases e170
                                              replace hx170_0 := (HB.out.cell (World.block_lt_of_cell? w _ hx170_0)).trans hx170_0
                                              replace p170 := eq_true p170
                                              replace q170 := eq_true q170
                                              go_wp2_with (first | ((with_reducible refine gate_callee (f := 28) rfl ?_); refine goesL_ (some 56) rfl rfl Try.func28 (by kernel_rfl) rfl #[.int .i64 (rd (rd_L1 l0_1 x26_2) x50_4), .int .i64 1, .int .i64 99] rfl (by (try simp only [List.map_toArray, List.map_cons, List.map_nil]); first | done | rfl | (simp only [List.length_drop, List.length_take]; rfl)) ?_; (with_reducible refine (impl_within.calls (rd (rd_L1 l0_1 x26_2) x50_4) 1 99 true _ A23.out).mono ?_); rintro e w' ⟨rfl, ⟨nd, rfl⟩⟩; refine ⟨_, rfl, ?_⟩) | (at_lookup; (try (refine gate_guard (by rfl) ?_; dsimp only)); refine mapSet_look (some 61) rfl rfl (.tmp 59) (.tmp 60) 46 3 4 rfl Try.underlying46 Try.underlying3 Try.underlying4 (fun _ => by kernel_rfl) (MapSet_below HM.out (by repeat (first | exact Below.refl _ _ | apply pw_below_drewN | apply below_drew1))) rfl (rd (rd_L1 l0_1 x26_2) x50_4) rfl _ (klook.of A25.out) ?_; have p173 : 0 ≤ ((ji28) : Int) := of_decide_eq_true (by first | (with_reducible assumption) | assumption); have q173 : (ji28) < ((rd_L1 l0_1 x26_2).length : Int) := of_decide_eq_true (by first | (with_reducible assumption) | assumption); obtain ⟨ad173, e173, hx173_0⟩ := Kd.at_int HR166_0.out (ji28) p173 q173; obtain rfl : ad170 = ad173 := (by injection e173); replace hx173_0 := (HB.out.cell (World.block_lt_of_cell? w _ hx173_0)).trans hx173_0; replace p173 := eq_true p173; replace q173 := eq_true q173))
                                              go_ret
                                              exact ⟨by first | rfl | (simp [errW_none, errW_some] <;> rfl) | (simp only [← hji28]; first | rfl | (simp [errW_none, errW_some] <;> rfl)) | (simp [*, errW_none, errW_some] <;> rfl), by repeat (first | (with_reducible first | exact HB.out | apply below_alloc | apply pw_below_drewN | apply below_drew1 | refine below_set ?_ GE163.out) | exact HB.out)⟩
                                            · rw [if_neg c31] at H
                                              have c31b0 : decide ((rd (rd_L1 l0_1 x26_2) x50_4) ≤ (rd (rd_L1 l0_1 x26_2) (ji28))) = false := decide_eq_false c31
                                              clear c31
                                              replace H := Option.bind_eq_some_iff.mp H
                                              obtain ⟨t174, A320, H⟩ := H
                                              replace H : (impl_IsValidGate.l1 k4 t174 (rd_L1 l0_1 x26_2) l0_1 (l0_1.length : Int) x26_2 (rd_L1 l0_1 x26_2) ((rd_L1 l0_1 x26_2).length : Int) (wrap64 (x50_4 + 1)) l0_0 l0_1) = some r := H
                                              have A32 := Aside0.mk A320
                                              clear A320
                                              have H' := Aside0.mk H
                                              clear H
                                              have p170 : 0 ≤ (x50_4 : Int) := of_decide_eq_true (by first | (with_reducible assumption) | assumption)
                                              have q170 : x50_4 < ((rd_L1 l0_1 x26_2).length : Int) := of_decide_eq_true (by first | (with_reducible assumption) | assumption)
                                              obtain ⟨ad170, e170, hx170_0⟩ := Kd.at_int HR166_0.out x50_4 p170 q170
                                              cases e170
                                              replace hx170_0 := (HB.out.cell (World.block_lt_of_cell? w _ hx170_0)).trans hx170_0
                                              replace p170 := eq_true p170
                                              replace q170 := eq_true q170
                                              go_wp2_with (first | ((with_reducible refine gate_callee (f := 28) rfl ?_); refine goesL_ (some 56) rfl rfl Try.func28 (by kernel_rfl) rfl #[.int .i64 (rd (rd_L1 l0_1 x26_2) x50_4), .int .i64 1, .int .i64 99] rfl (by (try simp only [List.map_toArray, List.map_cons, List.map_nil]); first | done | rfl | (simp only [List.length_drop, List.length_take]; rfl)) ?_; (with_reducible refine (impl_within.calls (rd (rd_L1 l0_1 x26_2) x50_4) 1 99 true _ A23.out).mono ?_); rintro e w' ⟨rfl, ⟨nd, rfl⟩⟩; refine ⟨_, rfl, ?_⟩) | (at_lookup; (try (refine gate_guard (by rfl) ?_; dsimp only)); refine mapSet_look (some 61) rfl rfl (.tmp 59) (.tmp 60) 46 3 4 rfl Try.underlying46 Try.underlying3 Try.underlying4 (fun _ => by kernel_rfl) (MapSet_below HM.out (by repeat (first | exact Below.refl _ _ | apply pw_below_drewN | apply below_drew1))) rfl (rd (rd_L1 l0_1 x26_2) x50_4) rfl _ (klook.of A25.out) ?_; have p173 : 0 ≤ ((ji28) : Int) := of_decide_eq_true (by first | (with_reducible assumption) | assumption); have q173 : (ji28) < ((rd_L1 l0_1 x26_2).length : Int) := of_decide_eq_true (by first | (with_reducible assumption) | assumption); obtain ⟨ad173, e173, hx173_0⟩ := Kd.at_int HR166_0.out (ji28) p173 q173; obtain rfl : ad170 = ad173 := (by injection e173); replace hx173_0 := (HB.out.cell (World.block_lt_of_cell? w _ hx173_0)).trans hx173_0; replace p173 := eq_true p173; replace q173 := eq_true q173) | (at_mapUpdate; (try (refine gate_guard (by rfl) ?_; dsimp only)); refine mapSet_put none rfl rfl (.tmp 76) (.tmp 77) (.const (.bool true)) 46 3 4 rfl Try.underlying46 Try.underlying3 Try.underlying4 (MapSet_below HM.out (by repeat (first | exact Below.refl _ _ | apply pw_below_drewN | apply below_drew1))) rfl (rd (rd_L1 l0_1 x26_2) x50_4) rfl rfl (kput.of A32.out) ?_; intro wu hMu hGu; have HMn := Aside0.mk hMu; have HBn := Aside0.mk (Below.grown (B := w.heap.size) (a := w) (by repeat (first | (with_reducible first | exact HB.out | apply below_alloc | apply pw_below_drewN | apply below_drew1) | exact HB.out)) hGu (Below.size (by repeat (first | (with_reducible first | exact HB.out | apply below_alloc | apply pw_below_drewN | apply below_drew1) | exact HB.out))) (fun j hj => by cases hj; exact HGE.out)); have BKn := Aside0.mk (blk_grown (g := gb163) (o := (.cells #[(.slice A0_0 l0_0.length c0_0), (.slice (some ad166) l0_1.length c0_1)] 28 (0, 0))) (by (with_reducible repeat (first | refine blk_drewN ?_ _ | refine blk_drew ?_ | refine blk_alloc ?_ _)); exact BK163.out) hGu (fun e_ => by have h_ := Option.some.inj e_; have g_ := HGB.out; omega)); clear hMu hGu HM HB BK163; have HM := HMn; have HB := HBn; have BK163 := BKn; clear HMn HBn BKn))
                                              go_roundg k4
                                              case measure => have := HJ1.out; have := HK2.out; have := HJ12.out; have := HK4.out; omega
                                              case rel => exact ⟨(t174), (wrap64 (x50_4 + 1)), (by first | rfl | (simp; done) | (simp [*]; done)), H', ⟨by have := HJ1.out; have := HK2.out; have := HJ12.out; have := HK4.out; omega⟩, ⟨by (with_reducible repeat (first | refine blk_drewN ?_ _ | refine blk_drew ?_ | refine blk_alloc ?_ _)); exact BK163.out⟩, ⟨by repeat (first | (with_reducible first | exact HB.out | apply below_alloc | apply pw_below_drewN | apply below_drew1 | refine below_set ?_ GE163.out) | exact HB.out)⟩, ⟨MapSet_below HM.out (by repeat (first | exact Below.refl _ _ | apply pw_below_drewN | apply below_drew1))⟩⟩
                                          · rw [if_neg c30] at H
                                            exact absurd H (by simp)
                                        · rw [if_neg c29] at H
                                          exact absurd H (by simp)
                                      · rw [if_neg c27] at H
                                        have c27b0 : decide (0 < x50_4) = false := decide_eq_false c27
                                        clear c27
                                        replace H := Option.bind_eq_some_iff.mp H
                                        obtain ⟨t175, A330, H⟩ := H
                                        replace H : (impl_IsValidGate.l1 k4 t175 (rd_L1 l0_1 x26_2) l0_1 (l0_1.length : Int) x26_2 (rd_L1 l0_1 x26_2) ((rd_L1 l0_1 x26_2).length : Int) (wrap64 (x50_4 + 1)) l0_0 l0_1) = some r := H
                                        have A33 := Aside0.mk A330
                                        clear A330
                                        have H' := Aside0.mk H
                                        clear H
                                        have p170 : 0 ≤ (x50_4 : Int) := of_decide_eq_true (by first | (with_reducible assumption) | assumption)
                                        have q170 : x50_4 < ((rd_L1 l0_1 x26_2).length : Int) := of_decide_eq_true (by first | (with_reducible assumption) | assumption)
                                        obtain ⟨ad170, e170, hx170_0⟩ := Kd.at_int HR166_0.out x50_4 p170 q170
                                        cases e170
                                        replace hx170_0 := (HB.out.cell (World.block_lt_of_cell? w _ hx170_0)).trans hx170_0
                                        replace p170 := eq_true p170
                                        replace q170 := eq_true q170
                                        go_wp2_with (first | ((with_reducible refine gate_callee (f := 28) rfl ?_); refine goesL_ (some 56) rfl rfl Try.func28 (by kernel_rfl) rfl #[.int .i64 (rd (rd_L1 l0_1 x26_2) x50_4), .int .i64 1, .int .i64 99] rfl (by (try simp only [List.map_toArray, List.map_cons, List.map_nil]); first | done | rfl | (simp only [List.length_drop, List.length_take]; rfl)) ?_; (with_reducible refine (impl_within.calls (rd (rd_L1 l0_1 x26_2) x50_4) 1 99 true _ A23.out).mono ?_); rintro e w' ⟨rfl, ⟨nd, rfl⟩⟩; refine ⟨_, rfl, ?_⟩) | (at_lookup; (try (refine gate_guard (by rfl) ?_; dsimp only)); refine mapSet_look (some 61) rfl rfl (.tmp 59) (.tmp 60) 46 3 4 rfl Try.underlying46 Try.underlying3 Try.underlying4 (fun _ => by kernel_rfl) (MapSet_below HM.out (by repeat (first | exact Below.refl _ _ | apply pw_below_drewN | apply below_drew1))) rfl (rd (rd_L1 l0_1 x26_2) x50_4) rfl _ (klook.of A25.out) ?_) | (at_mapUpdate; (try (refine gate_guard (by rfl) ?_; dsimp only)); refine mapSet_put none rfl rfl (.tmp 76) (.tmp 77) (.const (.bool true)) 46 3 4 rfl Try.underlying46 Try.underlying3 Try.underlying4 (MapSet_below HM.out (by repeat (first | exact Below.refl _ _ | apply pw_below_drewN | apply below_drew1))) rfl (rd (rd_L1 l0_1 x26_2) x50_4) rfl rfl (kput.of A33.out) ?_; intro wu hMu hGu; have HMn := Aside0.mk hMu; have HBn := Aside0.mk (Below.grown (B := w.heap.size) (a := w) (by repeat (first | (with_reducible first | exact HB.out | apply below_alloc | apply pw_below_drewN | apply below_drew1) | exact HB.out)) hGu (Below.size (by repeat (first | (with_reducible first | exact HB.out | apply below_alloc | apply pw_below_drewN | apply below_drew1) | exact HB.out))) (fun j hj => by cases hj; exact HGE.out)); have BKn := Aside0.mk (blk_grown (g := gb163) (o := (.cells #[(.slice A0_0 l0_0.length c0_0), (.slice (some ad166) l0_1.length c0_1)] 28 (0, 0))) (by (with_reducible repeat (first | refine blk_drewN ?_ _ | refine blk_drew ?_ | refine blk_alloc ?_ _)); exact BK163.out) hGu (fun e_ => by have h_ := Option.some.inj e_; have g_ := HGB.out; omega)); clear hMu hGu HM HB BK163; have HM := HMn; have HB := HBn; have BK163 := BKn; clear HMn HBn BKn))
                                        go_roundg k4
                                        case measure => have := HJ1.out; have := HK2.out; have := HJ12.out; have := HK4.out; omega
                                        case rel => exact ⟨(t175), (wrap64 (x50_4 + 1)), (by first | rfl | (simp; done) | (simp [*]; done)), H', ⟨by have := HJ1.out; have := HK2.out; have := HJ12.out; have := HK4.out; omega⟩, ⟨by (with_reducible repeat (first | refine blk_drewN ?_ _ | refine blk_drew ?_ | refine blk_alloc ?_ _)); exact BK163.out⟩, ⟨by repeat (first | (with_reducible first | exact HB.out | apply below_alloc | apply pw_below_drewN | apply below_drew1 | refine below_set ?_ GE163.out) | exact HB.out)⟩, ⟨MapSet_below HM.out (by repeat (first | exact Below.refl _ _ | apply pw_below_drewN | apply below_drew1))⟩⟩
                                  · replace c24 := Bool.eq_false_iff.mpr c24
                                    subst c24
                                    have H1 : (some false) = some r := by rw [if_neg (show ¬ (false = true) by decide)] at H; exact H
                                    clear H
                                    have H := H1
                                    clear H1
                                    obtain rfl := Option.some.inj H
                                    have p170 : 0 ≤ (x50_4 : Int) := of_decide_eq_true (by first | (with_reducible assumption) | assumption)
                                    have q170 : x50_4 < ((rd_L1 l0_1 x26_2).length : Int) := of_decide_eq_true (by first | (with_reducible assumption) | assumption)
                                    obtain ⟨ad170, e170, hx170_0⟩ := Kd.at_int HR166_0.out x50_4 p170 q170
                                    cases e170
                                    replace hx170_0 := (HB.out.cell (World.block_lt_of_cell? w _ hx170_0)).trans hx170_0
                                    replace p170 := eq_true p170
                                    replace q170 := eq_true q170
                                    go_wp2_with (first | ((with_reducible refine gate_callee (f := 28) rfl ?_); refine goesL_ (some 56) rfl rfl Try.func28 (by kernel_rfl) rfl #[.int .i64 (rd (rd_L1 l0_1 x26_2) x50_4), .int .i64 1, .int .i64 99] rfl (by (try simp only [List.map_toArray, List.map_cons, List.map_nil]); first | done | rfl | (simp only [List.length_drop, List.length_take]; rfl)) ?_; (with_reducible refine (impl_within.calls (rd (rd_L1 l0_1 x26_2) x50_4) 1 99 false _ A23.out).mono ?_); rintro e w' ⟨rfl, ⟨nd, rfl⟩⟩; refine ⟨_, rfl, ?_⟩))
                                    go_ret
                                    exact ⟨by first | rfl | (simp [errW_none, errW_some] <;> rfl) | (simp [*, errW_none, errW_some] <;> rfl), by repeat (first | (with_reducible first | exact HB.out | apply below_alloc | apply pw_below_drewN | apply below_drew1 | refine below_set ?_ GE163.out) | exact HB.out)⟩
                                · rw [if_neg c22] at H
                                  exact absurd H (by simp)
                              · rw [if_neg c21] at H
                                exact absurd H (by simp)
                            · rw [if_neg c20] at H
                              have c20b0 : decide (x50_4 < ((rd_L1 l0_1 x26_2).length : Int)) = false := decide_eq_false c20
                              clear c20
                              have H' := Aside0.mk H
                              clear H
                              go_wp2
                              go_roundg k4
                              case measure => have := HJ1.out; have := HK2.out; have := HJ12.out; have := HK4.out; omega
                              case rel => exact ⟨(x3_4), (wrap64 (x26_2 + 1)), (by first | rfl | (simp; done) | (simp [*]; done)), H', ⟨by have := HJ1.out; have := HK2.out; have := HJ12.out; have := HK4.out; omega⟩, ⟨by (with_reducible repeat (first | refine blk_drewN ?_ _ | refine blk_drew ?_ | refine blk_alloc ?_ _)); exact BK163.out⟩, ⟨by repeat (first | (with_reducible first | exact HB.out | apply below_alloc | apply pw_below_drewN | apply below_drew1 | refine below_set ?_ GE163.out) | exact HB.out)⟩, ⟨MapSet_below HM.out (by repeat (first | exact Below.refl _ _ | apply pw_below_drewN | apply below_drew1))⟩⟩
                · rw [if_neg c12] at H
                  exact absurd H (by simp)
              · rw [if_neg c11] at H
                exact absurd H (by simp)
            · rw [if_neg c10] at H
              have c10b0 : decide (x26_2 < (l0_1.length : Int)) = false := decide_eq_false c10
              clear c10
              replace H := Option.bind_eq_some_iff.mp H
              obtain ⟨t165, A340, H⟩ := H
              replace H : (some (decide (t165 ≤ 30))) = some r := H
              have A34 := Aside0.mk A340
              clear A340
              obtain rfl := Option.some.inj H
              go_wp2_with (first | (refine mapSet_len (some 81) rfl rfl (.tmp 80) 46 3 4 rfl Try.underlying46 (MapSet_below HM.out (by repeat (first | exact Below.refl _ _ | apply pw_below_drewN | apply below_drew1))) rfl _ (klen.of A34.out) ?_))
              go_ret
              exact ⟨by first | rfl | (simp [errW_none, errW_some] <;> rfl) | (simp [*, errW_none, errW_some] <;> rfl), by repeat (first | (with_reducible first | exact HB.out | apply below_alloc | apply pw_below_drewN | apply below_drew1 | refine below_set ?_ GE163.out) | exact HB.out)⟩

/-! ### slices_Max_int: function 37 -/
def slices_Max_int.f (l0 : List Int) : Option (Int) := if 0 < l0.length then some (Lib.maxOf l0) else none
theorem slices_Max_int.calls (A0 : Option Addr) (c0 : Nat) (l0 : List Int) (r : Int) (w : World) (hr0 : Kd.C (Kd.int .i64) w A0 l0.length l0) (hc0 : l0.length ≤ c0) (h : slices_Max_int.f l0 = some r) :
    Calls Try.prog 37 #[.slice A0 l0.length c0] w fun e w' => e = .returned (.int .i64 r) ∧ Drawn0 w w' := by
  unfold slices_Max_int.f at h
  by_cases hc : 0 < l0.length
  · rw [if_pos hc] at h
    obtain rfl := Option.some.inj h
    obtain ⟨ad, e0, h0⟩ := Kd.at_int hr0 0 (by omega) (by omega)
    have hs : ad.spot = none := by
      unfold World.cell? Addr.add at h0
      simp only [Int.toNat_zero, if_true] at h0
      split at h0
      · split at h0
        · cases h0
        · rename_i hn_
          cases hz_ : ad.spot with
          | none => rfl
          | some z_ => rw [hz_] at hn_; exact absurd rfl hn_
      · cases h0
    obtain ⟨bk, o, sp⟩ := ad
    cases hs
    subst e0
    refine (Try.slices_Max_int bk o l0.length c0 l0 w hc (Nat.le_refl _) (Kd.C_max hr0) (fun j hj => ?_)).mono fun e w' ⟨he, hw⟩ => ?_
    · obtain ⟨ad, e1, h1⟩ := Kd.at_int hr0 (j : Int) (by omega) (by omega)
      cases e1
      rw [Int.toNat_natCast] at h1
      have ea : Addr.add ⟨bk, o, none⟩ j = ⟨bk, o + j, none⟩ := by
        unfold Addr.add
        split
        · rename_i hz
          subst hz
          rfl
        · rfl
      rw [ea] at h1
      rw [h1]
      unfold rd
      rw [Int.toNat_natCast]
    · subst hw
      rw [List.take_length] at he
      exact ⟨he, Drawn0.refl _⟩
  · rw [if_neg hc] at h
    cases h

/-! ### slices_Min_int: function 38 -/
def slices_Min_int.f (l0 : List Int) : Option (Int) := if 0 < l0.length then some (Lib.minOf l0) else none
theorem slices_Min_int.calls (A0 : Option Addr) (c0 : Nat) (l0 : List Int) (r : Int) (w : World) (hr0 : Kd.C (Kd.int .i64) w A0 l0.length l0) (hc0 : l0.length ≤ c0) (h : slices_Min_int.f l0 = some r) :
    Calls Try.prog 38 #[.slice A0 l0.length c0] w fun e w' => e = .returned (.int .i64 r) ∧ Drawn0 w w' := by
  unfold slices_Min_int.f at h
  by_cases hc : 0 < l0.length
  · rw [if_pos hc] at h
    obtain rfl := Option.some.inj h
    obtain ⟨ad, e0, h0⟩ := Kd.at_int hr0 0 (by omega) (by omega)
    have hs : ad.spot = none := by
      unfold World.cell? Addr.add at h0
      simp only [Int.toNat_zero, if_true] at h0
      split at h0
      · split at h0
        · cases h0
        · rename_i hn_
          cases hz_ : ad.spot with
          | none => rfl
          | some z_ => rw [hz_] at hn_; exact absurd rfl hn_
      · cases h0
    obtain ⟨bk, o, sp⟩ := ad
    cases hs
    subst e0
    refine (Try.slices_Min_int bk o l0.length c0 l0 w hc (Nat.le_refl _) (Kd.C_max hr0) (fun j hj => ?_)).mono fun e w' ⟨he, hw⟩ => ?_
    · obtain ⟨ad, e1, h1⟩ := Kd.at_int hr0 (j : Int) (by omega) (by omega)
      cases e1
      rw [Int.toNat_natCast] at h1
      have ea : Addr.add ⟨bk, o, none⟩ j = ⟨bk, o + j, none⟩ := by
        unfold Addr.add
        split
        · rename_i hz
          subst hz
          rfl
        · rfl
      rw [ea] at h1
      rw [h1]
      unfold rd
      rw [Int.toNat_natCast]
    · subst hw
      rw [List.take_length] at he
      exact ⟨he, Drawn0.refl _⟩
  · rw [if_neg hc] at h
    cases h

end Go.Proofs.Ytpflhkjdjcfonaa.PFnExactSpreadSlots
