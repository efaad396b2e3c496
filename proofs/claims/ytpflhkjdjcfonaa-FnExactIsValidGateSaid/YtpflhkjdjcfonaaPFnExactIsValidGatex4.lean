-- Written by a program of this session, over the kit's print (wip/xprint.py)
import Derived.Test.YtpflhkjdjcfonaaPFnExactIsValidGatex0
import Derived.Test.YtpflhkjdjcfonaaPFnExactIsValidGatex3
namespace Go.Proofs.Ytpflhkjdjcfonaa.PFnExactIsValidGate
open Go.RowKit Go.Proofs.YtpflhkjdjcfonaaW.PrintWords Go.Proofs.YtpflhkjdjcfonaaW.PrintLast Go.Proofs.YtpflhkjdjcfonaaW.PrintMore
attribute [local go_sem] max2_int min2_int max_two min_two max_three min_three max_four min_four   -- for this text's walks alone
set_option linter.unusedVariables false
set_option linter.unusedSimpArgs false

/-! ### impl_IsValidGate: function 11 -/
mutual
def impl_IsValidGate.j0 : Nat → Bool → List Int → List (List Int) → Option (Bool)
  | 0, _, _, _ => none
  | k + 1, x21, x149000, x149001 => if x21 = true then (some false) else (impl_IsValidGate.l0 k ([] : List Int) x149001 (x149001.length : Int) 0 x149000 x149001)
def impl_IsValidGate.l0 : Nat → List Int → List (List Int) → Int → Int → List Int → List (List Int) → Option (Bool)
  | 0, _, _, _, _, _, _ => none
  | k + 1, x3, x24, x25, x26, x149000, x149001 => if x26 < x25 then (if 0 ≤ x26 then (if x26 < (x24.length : Int) then (if x26 < (x149000.length : Int) then ((impl_within.f (rd x149000 x26) 0 6).bind fun t153 => (if t153 = true then (impl_IsValidGate.j2 k x3 (rd_L1 x24 x26) x24 x25 x26 (decide (((rd_L1 x24 x26).length : Int) > (rd x149000 x26))) x149000 x149001) else (impl_IsValidGate.j2 k x3 (rd_L1 x24 x26) x24 x25 x26 true x149000 x149001))) else (none)) else (none)) else (none)) else ((klen.f x3).bind fun t150 => (some (decide (t150 ≤ 30))))
def impl_IsValidGate.j2 : Nat → List Int → List Int → List (List Int) → Int → Int → Bool → List Int → List (List Int) → Option (Bool)
  | 0, _, _, _, _, _, _, _, _ => none
  | k + 1, x3, x5, x24, x25, x26, x47, x149000, x149001 => if x47 = true then (some false) else (impl_IsValidGate.l1 k x3 x5 x24 x25 x26 x5 (x5.length : Int) 0 x149000 x149001)
def impl_IsValidGate.l1 : Nat → List Int → List Int → List (List Int) → Int → Int → List Int → Int → Int → List Int → List (List Int) → Option (Bool)
  | 0, _, _, _, _, _, _, _, _, _, _ => none
  | k + 1, x3, x5, x24, x25, x26, x48, x49, x50, x149000, x149001 => if x50 < x49 then (if 0 ≤ x50 then (if x50 < (x48.length : Int) then ((impl_within.f (rd x48 x50) 1 99).bind fun t156 => (if t156 = true then ((klook.f x3 (rd x48 x50)).bind fun t157 => (if t157 = true then (some false) else (if x50 > 0 then (if 0 ≤ (wrap64 (x50 - 1)) then (if (wrap64 (x50 - 1)) < (x5.length : Int) then (if (rd x48 x50) ≤ (rd x5 (wrap64 (x50 - 1))) then (some false) else ((kput.f x3 (rd x48 x50)).bind fun t159 => (impl_IsValidGate.l1 k t159 x5 x24 x25 x26 x48 x49 (wrap64 (x50 + 1)) x149000 x149001))) else (none)) else (none)) else ((kput.f x3 (rd x48 x50)).bind fun t160 => (impl_IsValidGate.l1 k t160 x5 x24 x25 x26 x48 x49 (wrap64 (x50 + 1)) x149000 x149001))))) else (some false))) else (none)) else (none)) else (impl_IsValidGate.l0 k x3 x24 x25 (wrap64 (x26 + 1)) x149000 x149001)
end
def impl_IsValidGate.f (k : Nat) (l0_0 : List Int) (l0_1 : List (List Int)) : Option (Bool) := (impl_within.f (l0_0.length : Int) 1 12).bind fun t149 => (if t149 = true then (impl_IsValidGate.j0 k ((l0_1.length : Int) != (l0_0.length : Int)) l0_0 l0_1) else (impl_IsValidGate.j0 k true l0_0 l0_1))
theorem impl_IsValidGate.mono_l : ∀ k, (∀ y0 y1 y2, LeO (impl_IsValidGate.j0 k y0 y1 y2) (impl_IsValidGate.j0 (k + 1) y0 y1 y2)) ∧ (∀ y0 y1 y2 y3 y4 y5, LeO (impl_IsValidGate.l0 k y0 y1 y2 y3 y4 y5) (impl_IsValidGate.l0 (k + 1) y0 y1 y2 y3 y4 y5)) ∧ (∀ y0 y1 y2 y3 y4 y5 y6 y7, LeO (impl_IsValidGate.j2 k y0 y1 y2 y3 y4 y5 y6 y7) (impl_IsValidGate.j2 (k + 1) y0 y1 y2 y3 y4 y5 y6 y7)) ∧ (∀ y0 y1 y2 y3 y4 y5 y6 y7 y8 y9, LeO (impl_IsValidGate.l1 k y0 y1 y2 y3 y4 y5 y6 y7 y8 y9) (impl_IsValidGate.l1 (k + 1) y0 y1 y2 y3 y4 y5 y6 y7 y8 y9))
  | 0 => ⟨fun _ _ _ r h => by simp [impl_IsValidGate.j0] at h, fun _ _ _ _ _ _ r h => by simp [impl_IsValidGate.l0] at h, fun _ _ _ _ _ _ _ _ r h => by simp [impl_IsValidGate.j2] at h, fun _ _ _ _ _ _ _ _ _ _ r h => by simp [impl_IsValidGate.l1] at h⟩
  | k + 1 => by
    obtain ⟨ih0, ih1, ih2, ih3⟩ := impl_IsValidGate.mono_l k
    refine ⟨?_, ?_, ?_, ?_⟩
    · intro y0 y1 y2
      unfold impl_IsValidGate.j0
      repeat' first
      | (with_reducible exact ih0 _ _ _)
      | (with_reducible exact ih1 _ _ _ _ _ _)
      | (with_reducible exact ih2 _ _ _ _ _ _ _ _)
      | (with_reducible exact ih3 _ _ _ _ _ _ _ _ _ _)
      | (with_reducible exact LeO.refl _)
      | (with_reducible exact LeO.none _)
      | (with_reducible refine LeO.ite ?_ ?_)
      | (with_reducible refine LeO.bind ?_ (fun _ => ?_))
      | exact ih0 _ _ _
      | exact ih1 _ _ _ _ _ _
      | exact ih2 _ _ _ _ _ _ _ _
      | exact ih3 _ _ _ _ _ _ _ _ _ _
      | exact LeO.none _
      | refine LeO.ite ?_ ?_
      | refine LeO.bind ?_ (fun _ => ?_)
    · intro y0 y1 y2 y3 y4 y5
      unfold impl_IsValidGate.l0
      repeat' first
      | (with_reducible exact ih0 _ _ _)
      | (with_reducible exact ih1 _ _ _ _ _ _)
      | (with_reducible exact ih2 _ _ _ _ _ _ _ _)
      | (with_reducible exact ih3 _ _ _ _ _ _ _ _ _ _)
      | (with_reducible exact LeO.refl _)
      | (with_reducible exact LeO.none _)
      | (with_reducible refine LeO.ite ?_ ?_)
      | (with_reducible refine LeO.bind ?_ (fun _ => ?_))
      | exact ih0 _ _ _
      | exact ih1 _ _ _ _ _ _
      | exact ih2 _ _ _ _ _ _ _ _
      | exact ih3 _ _ _ _ _ _ _ _ _ _
      | exact LeO.none _
      | refine LeO.ite ?_ ?_
      | refine LeO.bind ?_ (fun _ => ?_)
    · intro y0 y1 y2 y3 y4 y5 y6 y7
      unfold impl_IsValidGate.j2
      repeat' first
      | (with_reducible exact ih0 _ _ _)
      | (with_reducible exact ih1 _ _ _ _ _ _)
      | (with_reducible exact ih2 _ _ _ _ _ _ _ _)
      | (with_reducible exact ih3 _ _ _ _ _ _ _ _ _ _)
      | (with_reducible exact LeO.refl _)
      | (with_reducible exact LeO.none _)
      | (with_reducible refine LeO.ite ?_ ?_)
      | (with_reducible refine LeO.bind ?_ (fun _ => ?_))
      | exact ih0 _ _ _
      | exact ih1 _ _ _ _ _ _
      | exact ih2 _ _ _ _ _ _ _ _
      | exact ih3 _ _ _ _ _ _ _ _ _ _
      | exact LeO.none _
      | refine LeO.ite ?_ ?_
      | refine LeO.bind ?_ (fun _ => ?_)
    · intro y0 y1 y2 y3 y4 y5 y6 y7 y8 y9
      unfold impl_IsValidGate.l1
      repeat' first
      | (with_reducible exact ih0 _ _ _)
      | (with_reducible exact ih1 _ _ _ _ _ _)
      | (with_reducible exact ih2 _ _ _ _ _ _ _ _)
      | (with_reducible exact ih3 _ _ _ _ _ _ _ _ _ _)
      | (with_reducible exact LeO.refl _)
      | (with_reducible exact LeO.none _)
      | (with_reducible refine LeO.ite ?_ ?_)
      | (with_reducible refine LeO.bind ?_ (fun _ => ?_))
      | exact ih0 _ _ _
      | exact ih1 _ _ _ _ _ _
      | exact ih2 _ _ _ _ _ _ _ _
      | exact ih3 _ _ _ _ _ _ _ _ _ _
      | exact LeO.none _
      | refine LeO.ite ?_ ?_
      | refine LeO.bind ?_ (fun _ => ?_)
theorem impl_IsValidGate.mono : ∀ a0 a1 k, LeO (impl_IsValidGate.f k a0 a1) (impl_IsValidGate.f (k + 1) a0 a1) := by
  intro a0 a1 k
  obtain ⟨ih0, ih1, ih2, ih3⟩ := impl_IsValidGate.mono_l k
  unfold impl_IsValidGate.f
  repeat' first
      | (with_reducible exact ih0 _ _ _)
      | (with_reducible exact ih1 _ _ _ _ _ _)
      | (with_reducible exact ih2 _ _ _ _ _ _ _ _)
      | (with_reducible exact ih3 _ _ _ _ _ _ _ _ _ _)
      | (with_reducible exact LeO.refl _)
      | (with_reducible exact LeO.none _)
      | (with_reducible refine LeO.ite ?_ ?_)
      | (with_reducible refine LeO.bind ?_ (fun _ => ?_))
      | exact ih0 _ _ _
      | exact ih1 _ _ _ _ _ _
      | exact ih2 _ _ _ _ _ _ _ _
      | exact ih3 _ _ _ _ _ _ _ _ _ _
      | exact LeO.none _
      | refine LeO.ite ?_ ?_
      | refine LeO.bind ?_ (fun _ => ?_)
set_option maxHeartbeats 8000000 in
set_option maxRecDepth 100000 in
theorem impl_IsValidGate.calls (k : Nat) (A0_0 : Option Addr) (c0_0 : Nat) (l0_0 : List Int) (A0_1 : Option Addr) (c0_1 : Nat) (l0_1 : List (List Int)) (r : Bool) (w : World) (hr0_0 : Kd.C (Kd.int .i64) w A0_0 l0_0.length l0_0) (hc0_0 : l0_0.length ≤ c0_0) (hr0_1 : Kd.C (Kd.slice 3 (Kd.int .i64)) w A0_1 l0_1.length l0_1) (hc0_1 : l0_1.length ≤ c0_1) (h : impl_IsValidGate.f k l0_0 l0_1 = some r) :
    Calls Try.prog 11 #[.agg #[.slice A0_0 l0_0.length c0_0, .slice A0_1 l0_1.length c0_1]] w fun e w' => e = .returned (.bool r) ∧ Below w.heap.size w w' := by
  have hu28 := Try.underlying28
  have HR0_0 := Aside0.mk hr0_0
  have HC0_0 := Aside0.mk hc0_0
  clear hr0_0 hc0_0
  have HR0_1 := Aside0.mk hr0_1
  have HC0_1 := Aside0.mk hc0_1
  clear hr0_1 hc0_1
  have HB := Aside0.mk (Below.refl w.heap.size w)
  have H : ((impl_within.f (l0_0.length : Int) 1 12).bind fun t149 => (if t149 = true then (impl_IsValidGate.j0 k ((l0_1.length : Int) != (l0_0.length : Int)) l0_0 l0_1) else (impl_IsValidGate.j0 k true l0_0 l0_1))) = some r := h
  clear h
  have HC2 := Aside0.mk H
  clear H
  have hmm := @run_makeMap Try.prog
  go_enter Try.func11, Try.ntmps11
  go_upto_region 1 with (first | ((with_reducible refine gate_dst (N := 1) rfl ?_); (try (refine gate_guard (by rfl) ?_; dsimp only)); refine box_event ?hg (N := 1) ?hd (cs := #[.slice A0_0 l0_0.length c0_0, .slice A0_1 l0_1.length c0_1]) (t := 28) ?hr ?_; (case hd => rfl); (case hg => rfl); (case hr => first | (go_simp; done) | (go_simp; rfl)); intro gb148 hg w3 hbox hb; have n0_ := Aside0.mk (below_step (by repeat (first | (with_reducible first | exact HB.out | apply below_alloc | apply pw_below_drewN | apply below_drew1) | exact HB.out)) hb); have n1_ := Aside0.mk (hbox); have n2_ := Aside0.mk ((by rw [hg]; exact (below_size (by repeat (first | (with_reducible first | exact HB.out | apply below_alloc | apply pw_below_drewN | apply below_drew1) | exact HB.out))) : w.heap.size ≤ gb148)); have n3_ := Aside0.mk ((by rw [hg]; exact (below_size (by repeat (first | (with_reducible first | exact HB.out | apply below_alloc | apply pw_below_drewN | apply below_drew1) | exact HB.out))) : w.heap.size ≤ gb148)); clear HB; have HB := n0_; have BK148 := n1_; have GW148 := n2_; have GE148 := n3_; clear n0_ n1_ n2_ n3_; clear hb hbox hg))
  (try simp only [Act.put, List.setIfInBounds_toArray, List.set_cons_zero, List.set_cons_succ])
  go_cut [21] (fun v21 wc => ∃ (kq : Nat) (x21_1 : Bool), v21 = .bool x21_1 ∧ Aside0 (impl_IsValidGate.j0 kq x21_1 l0_0 l0_1 = some r) ∧ Aside0 (kq ≤ k) ∧ Aside0 (wc.heap[gb148]? = some (.cells #[(.slice A0_0 l0_0.length c0_0), (.slice A0_1 l0_1.length c0_1)] 28 (0, 0))) ∧ Aside0 (Below w.heap.size w wc))
  case first =>
    have H := HC2.out
    clear HC2
    replace H := Option.bind_eq_some_iff.mp H
    obtain ⟨t149, A40, H⟩ := H
    replace H : (if t149 = true then (impl_IsValidGate.j0 k ((l0_1.length : Int) != (l0_0.length : Int)) l0_0 l0_1) else (impl_IsValidGate.j0 k true l0_0 l0_1)) = some r := H
    have A4 := Aside0.mk A40
    clear A40
    by_cases c5 : t149 = true
    · subst c5
      have H1 : (impl_IsValidGate.j0 k ((l0_1.length : Int) != (l0_0.length : Int)) l0_0 l0_1) = some r := by rw [if_pos rfl] at H; exact H
      clear H
      have H := H1
      clear H1
      have H' := Aside0.mk H
      clear H
      have hcz6_0 : w3.cell? ⟨gb148, 0, none⟩ = some (.slice A0_0 l0_0.length c0_0) := (blk_cell BK148.out 0).trans rfl
      have hcz6_1 : w3.cell? ⟨gb148, 1, none⟩ = some (.slice A0_1 l0_1.length c0_1) := (blk_cell BK148.out 1).trans rfl
      have hfz6_0 := blk_frozen BK148.out 0
      have hfz6_1 := blk_frozen BK148.out 1
      go_wp2_with (first | ((with_reducible refine gate_callee (f := 28) rfl ?_); refine goesL_ (some 11) rfl rfl Try.func28 (by kernel_rfl) rfl #[.int .i64 (l0_0.length : Int), .int .i64 1, .int .i64 12] rfl (by (try simp only [List.map_toArray, List.map_cons, List.map_nil]); first | done | rfl | (simp only [List.length_drop, List.length_take]; rfl)) ?_; (with_reducible refine (impl_within.calls (l0_0.length : Int) 1 12 true _ A4.out).mono ?_); rintro e w' ⟨rfl, ⟨nd, rfl⟩⟩; refine ⟨_, rfl, ?_⟩))
      go_meet
      case rel => exact ⟨_, (((l0_1.length : Int) != (l0_0.length : Int))), (by first | rfl | (simp; done) | (simp [*]; done)), H', ⟨by first | omega | exact Nat.le_refl _⟩, ⟨by (with_reducible repeat (first | refine blk_drewN ?_ _ | refine blk_drew ?_ | refine blk_alloc ?_ _)); exact BK148.out⟩, ⟨by repeat (first | (with_reducible first | exact HB.out | apply below_alloc | apply pw_below_drewN | apply below_drew1 | refine below_set ?_ GE148.out) | exact HB.out)⟩⟩
    · replace c5 := Bool.eq_false_iff.mpr c5
      subst c5
      have H1 : (impl_IsValidGate.j0 k true l0_0 l0_1) = some r := by rw [if_neg (show ¬ (false = true) by decide)] at H; exact H
      clear H
      have H := H1
      clear H1
      have H' := Aside0.mk H
      clear H
      have hcz7_0 : w3.cell? ⟨gb148, 0, none⟩ = some (.slice A0_0 l0_0.length c0_0) := (blk_cell BK148.out 0).trans rfl
      have hcz7_1 : w3.cell? ⟨gb148, 1, none⟩ = some (.slice A0_1 l0_1.length c0_1) := (blk_cell BK148.out 1).trans rfl
      have hfz7_0 := blk_frozen BK148.out 0
      have hfz7_1 := blk_frozen BK148.out 1
      go_wp2_with (first | ((with_reducible refine gate_callee (f := 28) rfl ?_); refine goesL_ (some 11) rfl rfl Try.func28 (by kernel_rfl) rfl #[.int .i64 (l0_0.length : Int), .int .i64 1, .int .i64 12] rfl (by (try simp only [List.map_toArray, List.map_cons, List.map_nil]); first | done | rfl | (simp only [List.length_drop, List.length_take]; rfl)) ?_; (with_reducible refine (impl_within.calls (l0_0.length : Int) 1 12 false _ A4.out).mono ?_); rintro e w' ⟨rfl, ⟨nd, rfl⟩⟩; refine ⟨_, rfl, ?_⟩))
      go_meet
      case rel => exact ⟨_, (true), (by first | rfl | (simp; done) | (simp [*]; done)), H', ⟨by first | omega | exact Nat.le_refl _⟩, ⟨by (with_reducible repeat (first | refine blk_drewN ?_ _ | refine blk_drew ?_ | refine blk_alloc ?_ _)); exact BK148.out⟩, ⟨by repeat (first | (with_reducible first | exact HB.out | apply below_alloc | apply pw_below_drewN | apply below_drew1 | refine below_set ?_ GE148.out) | exact HB.out)⟩⟩
  case rest =>
    clear HC2
    try clear c1
    try clear c2
    try clear p2
    try clear c5
    try clear hcz6_0
    try clear hcz6_1
    try clear hcz7_0
    try clear hcz7_1
    try clear hfz6_0
    try clear hfz6_1
    try clear hfz7_0
    try clear hfz7_1
    obtain ⟨kq, x21_1, rfl, HA, HJ1, BK148, HB⟩ := hcut
    cases kq with
    | zero => exact absurd HA.out (by simp [impl_IsValidGate.j0])
    | succ kj1 =>
      have H := HA.out
      clear HA
      simp only [impl_IsValidGate.j0] at H
      by_cases c8 : x21_1 = true
      · subst c8
        have H1 : (some false) = some r := by rw [if_pos rfl] at H; exact H
        clear H
        have H := H1
        clear H1
        obtain rfl := Option.some.inj H
        go_wp2
        go_ret
        exact ⟨by first | rfl | (simp [errW_none, errW_some] <;> rfl) | (simp [*, errW_none, errW_some] <;> rfl), by repeat (first | (with_reducible first | exact HB.out | apply below_alloc | apply pw_below_drewN | apply below_drew1 | refine below_set ?_ GE148.out) | exact HB.out)⟩
      · replace c8 := Bool.eq_false_iff.mpr c8
        subst c8
        have H1 : (impl_IsValidGate.l0 kj1 ([] : List Int) l0_1 (l0_1.length : Int) 0 l0_0 l0_1) = some r := by rw [if_neg (show ¬ (false = true) by decide)] at H; exact H
        clear H
        have H := H1
        clear H1
        have H' := Aside0.mk H
        clear H
        have hcz9_0 : wc.cell? ⟨gb148, 0, none⟩ = some (.slice A0_0 l0_0.length c0_0) := (blk_cell BK148.out 0).trans rfl
        have hcz9_1 : wc.cell? ⟨gb148, 1, none⟩ = some (.slice A0_1 l0_1.length c0_1) := (blk_cell BK148.out 1).trans rfl
        have hfz9_0 := blk_frozen BK148.out 0
        have hfz9_1 := blk_frozen BK148.out 1
        obtain ⟨mb, hmb⟩ : ∃ m_ : Nat, wc.heap.size = m_ := ⟨_, rfl⟩
        have HGE := Aside0.mk (show w.heap.size ≤ mb from by rw [← hmb]; exact HB.out.size)
        have HGB := Aside0.mk (show gb148 < mb from by rw [← hmb]; exact blk_lt BK148.out)
        have hcz9_0a : (wc.alloc (.map #[] 0)).cell? ⟨gb148, 0, none⟩ = some (.slice A0_0 l0_0.length c0_0) := (blk_cell (blk_alloc BK148.out _) 0).trans rfl
        have hfz9_0b := blk_frozen (blk_alloc BK148.out (.map #[] 0)) 0
        have hcz9_1a : (wc.alloc (.map #[] 0)).cell? ⟨gb148, 1, none⟩ = some (.slice A0_1 l0_1.length c0_1) := (blk_cell (blk_alloc BK148.out _) 1).trans rfl
        have hfz9_1b := blk_frozen (blk_alloc BK148.out (.map #[] 0)) 1
        go_wp2
        (try rw [hmb])
        clear hmm
        clear hcz9_0a
        (try clear hfz9_0b)
        clear hcz9_1a
        (try clear hfz9_1b)
        go_loopg [26] kj1 (fun kq v26 w' => ∃ (x3_2 : List Int) (x26_2 : Int), v26 = .int .i64 x26_2 ∧ Aside0 (impl_IsValidGate.l0 kq x3_2 l0_1 (l0_1.length : Int) x26_2 l0_0 l0_1 = some r) ∧ Aside0 (kq ≤ kj1) ∧ Aside0 (w'.heap[gb148]? = some (.cells #[(.slice A0_0 l0_0.length c0_0), (.slice A0_1 l0_1.length c0_1)] 28 (0, 0))) ∧ Aside0 (Below w.heap.size w w') ∧ Aside0 (MapSet Try.prog 3 4 mb w' x3_2))
        case atStart => exact ⟨([] : List Int), (0), (by first | rfl | (simp; done) | (simp [*]; done)), H', ⟨Nat.le_refl _⟩, ⟨by (with_reducible repeat (first | refine blk_drewN ?_ _ | refine blk_drew ?_ | refine blk_alloc ?_ _)); exact BK148.out⟩, ⟨by repeat (first | (with_reducible first | exact HB.out | apply below_alloc | apply pw_below_drewN | apply below_drew1 | refine below_set ?_ GE148.out) | exact HB.out)⟩, ⟨by rw [← hmb]; exact MapSet_made _ _ _ _⟩⟩
        case round =>
          clear H'
          try clear c1
          try clear c2
          try clear p2
          try clear c5
          try clear c8
          try clear hcz6_0
          try clear hcz6_1
          try clear hcz7_0
          try clear hcz7_1
          try clear hcz9_0
          try clear hcz9_1
          try clear hfz6_0
          try clear hfz6_1
          try clear hfz7_0
          try clear hfz7_1
          try clear hfz9_0
          try clear hfz9_1
          try clear p2
          obtain ⟨x3_2, x26_2, rfl, HA, HK2, BK148, HB, HM⟩ := hrel
          cases gk with
          | zero => exact absurd HA.out (by simp [impl_IsValidGate.l0])
          | succ k2 =>
            have H := HA.out
            clear HA
            simp only [impl_IsValidGate.l0] at H
            by_cases c10 : x26_2 < (l0_1.length : Int)
            · rw [if_pos c10] at H
              have c10b0 : decide (x26_2 < (l0_1.length : Int)) = true := decide_eq_true c10
              clear c10
              by_cases c11 : 0 ≤ x26_2
              · rw [if_pos c11] at H
                have c11b0 : decide (0 ≤ x26_2) = true := decide_eq_true c11
                clear c11
                by_cases c12 : x26_2 < (l0_1.length : Int)
                · rw [if_pos c12] at H
                  have c12b0 : decide (x26_2 < (l0_1.length : Int)) = true := decide_eq_true c12
                  clear c12
                  have HC13 := Aside0.mk H
                  clear H
                  have p151 : 0 ≤ (x26_2 : Int) := of_decide_eq_true (by first | (with_reducible assumption) | assumption)
                  have q151 : x26_2 < (l0_1.length : Int) := of_decide_eq_true (by first | (with_reducible assumption) | assumption)
                  obtain ⟨ad151, A151_0, c151_0, e151, hx151_0, hl151_0, hi151_0⟩ := at_L1 HR0_1.out x26_2 p151 q151
                  cases e151
                  replace hx151_0 := (HB.out.cell (World.block_lt_of_cell? w _ hx151_0)).trans hx151_0
                  have HR151_0 := Aside0.mk hi151_0
                  have HC151_0 := Aside0.mk hl151_0
                  clear hi151_0 hl151_0
                  replace p151 := eq_true p151
                  replace q151 := eq_true q151
                  go_upto_region 7 with (fail)
                  go_cut [47] (fun v47 wc => ∃ (kq : Nat) (x47_12 : Bool), v47 = .bool x47_12 ∧ Aside0 (impl_IsValidGate.j2 kq x3_2 (rd_L1 l0_1 x26_2) l0_1 (l0_1.length : Int) x26_2 x47_12 l0_0 l0_1 = some r) ∧ Aside0 (kq ≤ k2) ∧ Aside0 (wc.heap[gb148]? = some (.cells #[(.slice A0_0 l0_0.length c0_0), (.slice (some ad151) l0_1.length c0_1)] 28 (0, 0))) ∧ Aside0 (Below w.heap.size w wc) ∧ Aside0 (MapSet Try.prog 3 4 mb wc x3_2))
                  case first =>
                    have H := HC13.out
                    clear HC13
                    by_cases c14 : x26_2 < (l0_0.length : Int)
                    · rw [if_pos c14] at H
                      have c14b0 : decide (x26_2 < (l0_0.length : Int)) = true := decide_eq_true c14
                      clear c14
                      (first | rw [c14b0] | (simp only [i64_w, i32_w]; rw [c14b0]) | skip)
                      replace H := Option.bind_eq_some_iff.mp H
                      obtain ⟨t153, A150, H⟩ := H
                      replace H : (if t153 = true then (impl_IsValidGate.j2 k2 x3_2 (rd_L1 l0_1 x26_2) l0_1 (l0_1.length : Int) x26_2 (decide (((rd_L1 l0_1 x26_2).length : Int) > (rd l0_0 x26_2))) l0_0 l0_1) else (impl_IsValidGate.j2 k2 x3_2 (rd_L1 l0_1 x26_2) l0_1 (l0_1.length : Int) x26_2 true l0_0 l0_1)) = some r := H
                      have A15 := Aside0.mk A150
                      clear A150
                      by_cases c16 : t153 = true
                      · subst c16
                        have H1 : (impl_IsValidGate.j2 k2 x3_2 (rd_L1 l0_1 x26_2) l0_1 (l0_1.length : Int) x26_2 (decide (((rd_L1 l0_1 x26_2).length : Int) > (rd l0_0 x26_2))) l0_0 l0_1) = some r := by rw [if_pos rfl] at H; exact H
                        clear H
                        have H := H1
                        clear H1
                        have H' := Aside0.mk H
                        clear H
                        have hcz17_0 : wr.cell? ⟨gb148, 0, none⟩ = some (.slice A0_0 l0_0.length c0_0) := (blk_cell BK148.out 0).trans rfl
                        have hcz17_1 : wr.cell? ⟨gb148, 1, none⟩ = some (.slice (some ad151) l0_1.length c0_1) := (blk_cell BK148.out 1).trans rfl
                        have hfz17_0 := blk_frozen BK148.out 0
                        have hfz17_1 := blk_frozen BK148.out 1
                        have p152 : 0 ≤ (x26_2 : Int) := of_decide_eq_true (by first | (with_reducible assumption) | assumption)
                        have q152 : x26_2 < (l0_0.length : Int) := of_decide_eq_true (by first | (with_reducible assumption) | assumption)
                        obtain ⟨ad152, e152, hx152_0⟩ := Kd.at_int HR0_0.out x26_2 p152 q152
                        cases e152
                        replace hx152_0 := (HB.out.cell (World.block_lt_of_cell? w _ hx152_0)).trans hx152_0
                        replace p152 := eq_true p152
                        replace q152 := eq_true q152
                        go_wp2_with (first | ((with_reducible refine gate_callee (f := 28) rfl ?_); refine goesL_ (some 36) rfl rfl Try.func28 (by kernel_rfl) rfl #[.int .i64 (rd l0_0 x26_2), .int .i64 0, .int .i64 6] rfl (by (try simp only [List.map_toArray, List.map_cons, List.map_nil]); first | done | rfl | (simp only [List.length_drop, List.length_take]; rfl)) ?_; (with_reducible refine (impl_within.calls (rd l0_0 x26_2) 0 6 true _ A15.out).mono ?_); rintro e w' ⟨rfl, ⟨nd, rfl⟩⟩; refine ⟨_, rfl, ?_⟩; have p154 : 0 ≤ (x26_2 : Int) := of_decide_eq_true (by first | (with_reducible assumption) | assumption); have q154 : x26_2 < (l0_0.length : Int) := of_decide_eq_true (by first | (with_reducible assumption) | assumption); obtain ⟨ad154, e154, hx154_0⟩ := Kd.at_int HR0_0.out x26_2 p154 q154; obtain rfl : ad152 = ad154 := (by injection e154); replace hx154_0 := (HB.out.cell (World.block_lt_of_cell? w _ hx154_0)).trans hx154_0; replace p154 := eq_true p154; replace q154 := eq_true q154))
                        go_meet
                        case rel => exact ⟨_, (decide (((rd_L1 l0_1 x26_2).length : Int) > (rd l0_0 x26_2))), (by first | rfl | (simp; done) | (simp [*]; done)), H', ⟨by have := HJ1.out; have := HK2.out; first | omega | exact Nat.le_refl _⟩, ⟨by (with_reducible repeat (first | refine blk_drewN ?_ _ | refine blk_drew ?_ | refine blk_alloc ?_ _)); exact BK148.out⟩, ⟨by repeat (first | (with_reducible first | exact HB.out | apply below_alloc | apply pw_below_drewN | apply below_drew1 | refine below_set ?_ GE148.out) | exact HB.out)⟩, ⟨MapSet_below HM.out (by repeat (first | exact Below.refl _ _ | apply pw_below_drewN | apply below_drew1))⟩⟩
                      · replace c16 := Bool.eq_false_iff.mpr c16
                        subst c16
                        have H1 : (impl_IsValidGate.j2 k2 x3_2 (rd_L1 l0_1 x26_2) l0_1 (l0_1.length : Int) x26_2 true l0_0 l0_1) = some r := by rw [if_neg (show ¬ (false = true) by decide)] at H; exact H
                        clear H
                        have H := H1
                        clear H1
                        have H' := Aside0.mk H
                        clear H
                        have hcz18_0 : wr.cell? ⟨gb148, 0, none⟩ = some (.slice A0_0 l0_0.length c0_0) := (blk_cell BK148.out 0).trans rfl
                        have hcz18_1 : wr.cell? ⟨gb148, 1, none⟩ = some (.slice (some ad151) l0_1.length c0_1) := (blk_cell BK148.out 1).trans rfl
                        have hfz18_0 := blk_frozen BK148.out 0
                        have hfz18_1 := blk_frozen BK148.out 1
                        have p152 : 0 ≤ (x26_2 : Int) := of_decide_eq_true (by first | (with_reducible assumption) | assumption)
                        have q152 : x26_2 < (l0_0.length : Int) := of_decide_eq_true (by first | (with_reducible assumption) | assumption)
                        obtain ⟨ad152, e152, hx152_0⟩ := Kd.at_int HR0_0.out x26_2 p152 q152
                        cases e152
                        replace hx152_0 := (HB.out.cell (World.block_lt_of_cell? w _ hx152_0)).trans hx152_0
                        replace p152 := eq_true p152
                        replace q152 := eq_true q152
                        go_wp2_with (first | ((with_reducible refine gate_callee (f := 28) rfl ?_); refine goesL_ (some 36) rfl rfl Try.func28 (by kernel_rfl) rfl #[.int .i64 (rd l0_0 x26_2), .int .i64 0, .int .i64 6] rfl (by (try simp only [List.map_toArray, List.map_cons, List.map_nil]); first | done | rfl | (simp only [List.length_drop, List.length_take]; rfl)) ?_; (with_reducible refine (impl_within.calls (rd l0_0 x26_2) 0 6 false _ A15.out).mono ?_); rintro e w' ⟨rfl, ⟨nd, rfl⟩⟩; refine ⟨_, rfl, ?_⟩))
                        go_meet
                        case rel => exact ⟨_, (true), (by first | rfl | (simp; done) | (simp [*]; done)), H', ⟨by have := HJ1.out; have := HK2.out; first | omega | exact Nat.le_refl _⟩, ⟨by (with_reducible repeat (first | refine blk_drewN ?_ _ | refine blk_drew ?_ | refine blk_alloc ?_ _)); exact BK148.out⟩, ⟨by repeat (first | (with_reducible first | exact HB.out | apply below_alloc | apply pw_below_drewN | apply below_drew1 | refine below_set ?_ GE148.out) | exact HB.out)⟩, ⟨MapSet_below HM.out (by repeat (first | exact Below.refl _ _ | apply pw_below_drewN | apply below_drew1))⟩⟩
                    · rw [if_neg c14] at H
                      exact absurd H (by simp)
                  case rest =>
                    clear HC13
                    try clear c1
                    try clear p1
                    try clear q1
                    try clear hx1
                    try clear c2
                    try clear p2
                    try clear c5
                    try clear c8
                    try clear c10
                    try clear c10b0
                    try clear c11
                    try clear c11b0
                    try clear c12
                    try clear c12b0
                    try clear c14
                    try clear c14b0
                    try clear c15
                    try clear p15
                    try clear q15
                    try clear hx15
                    try clear c16
                    try clear hcz17_0
                    try clear hcz17_1
                    try clear hcz18_0
                    try clear hcz18_1
                    try clear hcz6_0
                    try clear hcz6_1
                    try clear hcz7_0
                    try clear hcz7_1
                    try clear hcz9_0
                    try clear hcz9_1
                    try clear hfz17_0
                    try clear hfz17_1
                    try clear hfz18_0
                    try clear hfz18_1
                    try clear hfz6_0
                    try clear hfz6_1
                    try clear hfz7_0
                    try clear hfz7_1
                    try clear hfz9_0
                    try clear hfz9_1
                    try clear hx151_0
                    try clear hx152_0
                    try clear hx154_0
                    try clear p151
                    try clear p152
                    try clear p154
                    try clear p2
                    try clear q151
                    try clear q152
                    try clear q154
                    obtain ⟨kq, x47_12, rfl, HA, HJ12, BK148, HB, HM⟩ := hcut
                    cases kq with
                    | zero => exact absurd HA.out (by simp [impl_IsValidGate.j2])
                    | succ kj12 =>
                      have H := HA.out
                      clear HA
                      simp only [impl_IsValidGate.j2] at H
                      by_cases c19 : x47_12 = true
                      · subst c19
                        have H1 : (some false) = some r := by rw [if_pos rfl] at H; exact H
                        clear H
                        have H := H1
                        clear H1
                        obtain rfl := Option.some.inj H
                        go_wp2
                        go_ret
                        exact ⟨by first | rfl | (simp [errW_none, errW_some] <;> rfl) | (simp [*, errW_none, errW_some] <;> rfl), by repeat (first | (with_reducible first | exact HB.out | apply below_alloc | apply pw_below_drewN | apply below_drew1 | refine below_set ?_ GE148.out) | exact HB.out)⟩
                      · replace c19 := Bool.eq_false_iff.mpr c19
                        subst c19
                        have H1 : (impl_IsValidGate.l1 kj12 x3_2 (rd_L1 l0_1 x26_2) l0_1 (l0_1.length : Int) x26_2 (rd_L1 l0_1 x26_2) ((rd_L1 l0_1 x26_2).length : Int) 0 l0_0 l0_1) = some r := by rw [if_neg (show ¬ (false = true) by decide)] at H; exact H
                        clear H
                        have H := H1
                        clear H1
                        have H' := Aside0.mk H
                        clear H
                        go_wp2
                        go_loopg [50] kj12 (fun kq v50 w' => ∃ (x3_4 : List Int) (x50_4 : Int), v50 = .int .i64 x50_4 ∧ Aside0 (impl_IsValidGate.l1 kq x3_4 (rd_L1 l0_1 x26_2) l0_1 (l0_1.length : Int) x26_2 (rd_L1 l0_1 x26_2) ((rd_L1 l0_1 x26_2).length : Int) x50_4 l0_0 l0_1 = some r) ∧ Aside0 (kq ≤ kj12) ∧ Aside0 (w'.heap[gb148]? = some (.cells #[(.slice A0_0 l0_0.length c0_0), (.slice (some ad151) l0_1.length c0_1)] 28 (0, 0))) ∧ Aside0 (Below w.heap.size w w') ∧ Aside0 (MapSet Try.prog 3 4 mb w' x3_4))
                        case atStart => exact ⟨(x3_2), (0), (by first | rfl | (simp; done) | (simp [*]; done)), H', ⟨Nat.le_refl _⟩, ⟨by (with_reducible repeat (first | refine blk_drewN ?_ _ | refine blk_drew ?_ | refine blk_alloc ?_ _)); exact BK148.out⟩, ⟨by repeat (first | (with_reducible first | exact HB.out | apply below_alloc | apply pw_below_drewN | apply below_drew1 | refine below_set ?_ GE148.out) | exact HB.out)⟩, ⟨MapSet_below HM.out (by repeat (first | exact Below.refl _ _ | apply pw_below_drewN | apply below_drew1))⟩⟩
                        case round =>
                          clear H'
                          try clear c1
                          try clear p1
                          try clear q1
                          try clear hx1
                          try clear c2
                          try clear p2
                          try clear c5
                          try clear c8
                          try clear c10
                          try clear c10b0
                          try clear c11
                          try clear c11b0
                          try clear c12
                          try clear c12b0
                          try clear c14
                          try clear c14b0
                          try clear c15
                          try clear p15
                          try clear q15
                          try clear hx15
                          try clear c16
                          try clear c19
                          try clear hcz17_0
                          try clear hcz17_1
                          try clear hcz18_0
                          try clear hcz18_1
                          try clear hcz6_0
                          try clear hcz6_1
                          try clear hcz7_0
                          try clear hcz7_1
                          try clear hcz9_0
                          try clear hcz9_1
                          try clear hfz17_0
                          try clear hfz17_1
                          try clear hfz18_0
                          try clear hfz18_1
                          try clear hfz6_0
                          try clear hfz6_1
                          try clear hfz7_0
                          try clear hfz7_1
                          try clear hfz9_0
                          try clear hfz9_1
                          try clear hx151_0
                          try clear hx152_0
                          try clear hx154_0
                          try clear p1
                          try clear p15
                          try clear p151
                          try clear p152
                          try clear p154
                          try clear p2
                          try clear q1
                          try clear q15
                          try clear q151
                          try clear q152
                          try clear q154
                          obtain ⟨x3_4, x50_4, rfl, HA, HK4, BK148, HB, HM⟩ := hrel
                          cases gk with
                          | zero => exact absurd HA.out (by simp [impl_IsValidGate.l1])
                          | succ k4 =>
                            have H := HA.out
                            clear HA
                            simp only [impl_IsValidGate.l1] at H
                            by_cases c20 : x50_4 < ((rd_L1 l0_1 x26_2).length : Int)
                            · rw [if_pos c20] at H
                              have c20b0 : decide (x50_4 < ((rd_L1 l0_1 x26_2).length : Int)) = true := decide_eq_true c20
                              clear c20
                              by_cases c21 : 0 ≤ x50_4
                              · rw [if_pos c21] at H
                                have c21b0 : decide (0 ≤ x50_4) = true := decide_eq_true c21
                                clear c21
                                by_cases c22 : x50_4 < ((rd_L1 l0_1 x26_2).length : Int)
                                · rw [if_pos c22] at H
                                  have c22b0 : decide (x50_4 < ((rd_L1 l0_1 x26_2).length : Int)) = true := decide_eq_true c22
                                  clear c22
                                  replace H := Option.bind_eq_some_iff.mp H
                                  obtain ⟨t156, A230, H⟩ := H
                                  replace H : (if t156 = true then ((klook.f x3_4 (rd (rd_L1 l0_1 x26_2) x50_4)).bind fun t157 => (if t157 = true then (some false) else (if x50_4 > 0 then (if 0 ≤ (wrap64 (x50_4 - 1)) then (if (wrap64 (x50_4 - 1)) < ((rd_L1 l0_1 x26_2).length : Int) then (if (rd (rd_L1 l0_1 x26_2) x50_4) ≤ (rd (rd_L1 l0_1 x26_2) (wrap64 (x50_4 - 1))) then (some false) else ((kput.f x3_4 (rd (rd_L1 l0_1 x26_2) x50_4)).bind fun t159 => (impl_IsValidGate.l1 k4 t159 (rd_L1 l0_1 x26_2) l0_1 (l0_1.length : Int) x26_2 (rd_L1 l0_1 x26_2) ((rd_L1 l0_1 x26_2).length : Int) (wrap64 (x50_4 + 1)) l0_0 l0_1))) else (none)) else (none)) else ((kput.f x3_4 (rd (rd_L1 l0_1 x26_2) x50_4)).bind fun t160 => (impl_IsValidGate.l1 k4 t160 (rd_L1 l0_1 x26_2) l0_1 (l0_1.length : Int) x26_2 (rd_L1 l0_1 x26_2) ((rd_L1 l0_1 x26_2).length : Int) (wrap64 (x50_4 + 1)) l0_0 l0_1))))) else (some false)) = some r := H
                                  have A23 := Aside0.mk A230
                                  clear A230
                                  by_cases c24 : t156 = true
                                  · subst c24
                                    have H1 : ((klook.f x3_4 (rd (rd_L1 l0_1 x26_2) x50_4)).bind fun t157 => (if t157 = true then (some false) else (if x50_4 > 0 then (if 0 ≤ (wrap64 (x50_4 - 1)) then (if (wrap64 (x50_4 - 1)) < ((rd_L1 l0_1 x26_2).length : Int) then (if (rd (rd_L1 l0_1 x26_2) x50_4) ≤ (rd (rd_L1 l0_1 x26_2) (wrap64 (x50_4 - 1))) then (some false) else ((kput.f x3_4 (rd (rd_L1 l0_1 x26_2) x50_4)).bind fun t159 => (impl_IsValidGate.l1 k4 t159 (rd_L1 l0_1 x26_2) l0_1 (l0_1.length : Int) x26_2 (rd_L1 l0_1 x26_2) ((rd_L1 l0_1 x26_2).length : Int) (wrap64 (x50_4 + 1)) l0_0 l0_1))) else (none)) else (none)) else ((kput.f x3_4 (rd (rd_L1 l0_1 x26_2) x50_4)).bind fun t160 => (impl_IsValidGate.l1 k4 t160 (rd_L1 l0_1 x26_2) l0_1 (l0_1.length : Int) x26_2 (rd_L1 l0_1 x26_2) ((rd_L1 l0_1 x26_2).length : Int) (wrap64 (x50_4 + 1)) l0_0 l0_1))))) = some r := by rw [if_pos rfl] at H; exact H
                                    clear H
                                    have H := H1
                                    clear H1
                                    replace H := Option.bind_eq_some_iff.mp H
                                    obtain ⟨t157, A250, H⟩ := H
                                    replace H : (if t157 = true then (some false) else (if x50_4 > 0 then (if 0 ≤ (wrap64 (x50_4 - 1)) then (if (wrap64 (x50_4 - 1)) < ((rd_L1 l0_1 x26_2).length : Int) then (if (rd (rd_L1 l0_1 x26_2) x50_4) ≤ (rd (rd_L1 l0_1 x26_2) (wrap64 (x50_4 - 1))) then (some false) else ((kput.f x3_4 (rd (rd_L1 l0_1 x26_2) x50_4)).bind fun t159 => (impl_IsValidGate.l1 k4 t159 (rd_L1 l0_1 x26_2) l0_1 (l0_1.length : Int) x26_2 (rd_L1 l0_1 x26_2) ((rd_L1 l0_1 x26_2).length : Int) (wrap64 (x50_4 + 1)) l0_0 l0_1))) else (none)) else (none)) else ((kput.f x3_4 (rd (rd_L1 l0_1 x26_2) x50_4)).bind fun t160 => (impl_IsValidGate.l1 k4 t160 (rd_L1 l0_1 x26_2) l0_1 (l0_1.length : Int) x26_2 (rd_L1 l0_1 x26_2) ((rd_L1 l0_1 x26_2).length : Int) (wrap64 (x50_4 + 1)) l0_0 l0_1)))) = some r := H
                                    have A25 := Aside0.mk A250
                                    clear A250
                                    by_cases c26 : t157 = true
                                    · subst c26
                                      have H1 : (some false) = some r := by rw [if_pos rfl] at H; exact H
                                      clear H
                                      have H := H1
                                      clear H1
                                      obtain rfl := Option.some.inj H
                                      have p155 : 0 ≤ (x50_4 : Int) := of_decide_eq_true (by first | (with_reducible assumption) | assumption)
                                      have q155 : x50_4 < ((rd_L1 l0_1 x26_2).length : Int) := of_decide_eq_true (by first | (with_reducible assumption) | assumption)
                                      obtain ⟨ad155, e155, hx155_0⟩ := Kd.at_int HR151_0.out x50_4 p155 q155
                                      cases e155
                                      replace hx155_0 := (HB.out.cell (World.block_lt_of_cell? w _ hx155_0)).trans hx155_0
                                      replace p155 := eq_true p155
                                      replace q155 := eq_true q155
                                      go_wp2_with (first | ((with_reducible refine gate_callee (f := 28) rfl ?_); refine goesL_ (some 56) rfl rfl Try.func28 (by kernel_rfl) rfl #[.int .i64 (rd (rd_L1 l0_1 x26_2) x50_4), .int .i64 1, .int .i64 99] rfl (by (try simp only [List.map_toArray, List.map_cons, List.map_nil]); first | done | rfl | (simp only [List.length_drop, List.length_take]; rfl)) ?_; (with_reducible refine (impl_within.calls (rd (rd_L1 l0_1 x26_2) x50_4) 1 99 true _ A23.out).mono ?_); rintro e w' ⟨rfl, ⟨nd, rfl⟩⟩; refine ⟨_, rfl, ?_⟩) | (at_lookup; (try (refine gate_guard (by rfl) ?_; dsimp only)); refine mapSet_look (some 61) rfl rfl (.tmp 59) (.tmp 60) 46 3 4 rfl Try.underlying46 Try.underlying3 Try.underlying4 (fun _ => by kernel_rfl) (MapSet_below HM.out (by repeat (first | exact Below.refl _ _ | apply pw_below_drewN | apply below_drew1))) rfl (rd (rd_L1 l0_1 x26_2) x50_4) rfl _ (klook.of A25.out) ?_))
                                      go_ret
                                      exact ⟨by first | rfl | (simp [errW_none, errW_some] <;> rfl) | (simp [*, errW_none, errW_some] <;> rfl), by repeat (first | (with_reducible first | exact HB.out | apply below_alloc | apply pw_below_drewN | apply below_drew1 | refine below_set ?_ GE148.out) | exact HB.out)⟩
                                    · replace c26 := Bool.eq_false_iff.mpr c26
                                      subst c26
                                      have H1 : (if x50_4 > 0 then (if 0 ≤ (wrap64 (x50_4 - 1)) then (if (wrap64 (x50_4 - 1)) < ((rd_L1 l0_1 x26_2).length : Int) then (if (rd (rd_L1 l0_1 x26_2) x50_4) ≤ (rd (rd_L1 l0_1 x26_2) (wrap64 (x50_4 - 1))) then (some false) else ((kput.f x3_4 (rd (rd_L1 l0_1 x26_2) x50_4)).bind fun t159 => (impl_IsValidGate.l1 k4 t159 (rd_L1 l0_1 x26_2) l0_1 (l0_1.length : Int) x26_2 (rd_L1 l0_1 x26_2) ((rd_L1 l0_1 x26_2).length : Int) (wrap64 (x50_4 + 1)) l0_0 l0_1))) else (none)) else (none)) else ((kput.f x3_4 (rd (rd_L1 l0_1 x26_2) x50_4)).bind fun t160 => (impl_IsValidGate.l1 k4 t160 (rd_L1 l0_1 x26_2) l0_1 (l0_1.length : Int) x26_2 (rd_L1 l0_1 x26_2) ((rd_L1 l0_1 x26_2).length : Int) (wrap64 (x50_4 + 1)) l0_0 l0_1))) = some r := by rw [if_neg (show ¬ (false = true) by decide)] at H; exact H
                                      clear H
                                      have H := H1
                                      clear H1
                                      by_cases c27 : x50_4 > 0
                                      · rw [if_pos c27] at H
                                        have c27b0 : decide (0 < x50_4) = true := decide_eq_true c27
                                        clear c27
                                        obtain ⟨ji28, hji28⟩ : ∃ j_ : Int, (wrap64 (x50_4 - 1)) = j_ := ⟨_, rfl⟩
                                        replace H : (if 0 ≤ (ji28) then (if (ji28) < ((rd_L1 l0_1 x26_2).length : Int) then (if (rd (rd_L1 l0_1 x26_2) x50_4) ≤ (rd (rd_L1 l0_1 x26_2) (ji28)) then (some false) else ((kput.f x3_4 (rd (rd_L1 l0_1 x26_2) x50_4)).bind fun t159 => (impl_IsValidGate.l1 k4 t159 (rd_L1 l0_1 x26_2) l0_1 (l0_1.length : Int) x26_2 (rd_L1 l0_1 x26_2) ((rd_L1 l0_1 x26_2).length : Int) (wrap64 (x50_4 + 1)) l0_0 l0_1))) else (none)) else (none)) = some r := by first | (rw [hji28] at H; exact H) | (simp only [hji28] at H ⊢; exact H)
                                        (try rw [hji28] at A23)
                                        (try rw [hji28] at A25)
                                        have hji28w : (IntKind.i64.wrap (x50_4 - 1)) = ji28 := (i64_w _).trans hji28
                                        by_cases c29 : 0 ≤ (ji28)
                                        · rw [if_pos c29] at H
                                          have c29b0 : decide (0 ≤ (ji28)) = true := decide_eq_true c29
                                          clear c29
                                          by_cases c30 : (ji28) < ((rd_L1 l0_1 x26_2).length : Int)
                                          · rw [if_pos c30] at H
                                            have c30b0 : decide ((ji28) < ((rd_L1 l0_1 x26_2).length : Int)) = true := decide_eq_true c30
                                            clear c30
                                            by_cases c31 : (rd (rd_L1 l0_1 x26_2) x50_4) ≤ (rd (rd_L1 l0_1 x26_2) (ji28))
                                            · rw [if_pos c31] at H
                                              have c31b0 : decide ((rd (rd_L1 l0_1 x26_2) x50_4) ≤ (rd (rd_L1 l0_1 x26_2) (ji28))) = true := decide_eq_true c31
                                              clear c31
                                              obtain rfl := Option.some.inj H
                                              have p155 : 0 ≤ (x50_4 : Int) := of_decide_eq_true (by first | (with_reducible assumption) | assumption)
                                              have q155 : x50_4 < ((rd_L1 l0_1 x26_2).length : Int) := of_decide_eq_true (by first | (with_reducible assumption) | assumption)
                                              obtain ⟨ad155, e155, hx155_0⟩ := Kd.at_int HR151_0.out x50_4 p155 q155
                                              cases e155
                                              replace hx155_0 := (HB.out.cell (World.block_lt_of_cell? w _ hx155_0)).trans hx155_0
                                              replace p155 := eq_true p155
                                              replace q155 := eq_true q155
                                              go_wp2_with (first | ((with_reducible refine gate_callee (f := 28) rfl ?_); refine goesL_ (some 56) rfl rfl Try.func28 (by kernel_rfl) rfl #[.int .i64 (rd (rd_L1 l0_1 x26_2) x50_4), .int .i64 1, .int .i64 99] rfl (by (try simp only [List.map_toArray, List.map_cons, List.map_nil]); first | done | rfl | (simp only [List.length_drop, List.length_take]; rfl)) ?_; (with_reducible refine (impl_within.calls (rd (rd_L1 l0_1 x26_2) x50_4) 1 99 true _ A23.out).mono ?_); rintro e w' ⟨rfl, ⟨nd, rfl⟩⟩; refine ⟨_, rfl, ?_⟩) | (at_lookup; (try (refine gate_guard (by rfl) ?_; dsimp only)); refine mapSet_look (some 61) rfl rfl (.tmp 59) (.tmp 60) 46 3 4 rfl Try.underlying46 Try.underlying3 Try.underlying4 (fun _ => by kernel_rfl) (MapSet_below HM.out (by repeat (first | exact Below.refl _ _ | apply pw_below_drewN | apply below_drew1))) rfl (rd (rd_L1 l0_1 x26_2) x50_4) rfl _ (klook.of A25.out) ?_; have p158 : 0 ≤ ((ji28) : Int) := of_decide_eq_true (by first | (with_reducible assumption) | assumption); have q158 : (ji28) < ((rd_L1 l0_1 x26_2).length : Int) := of_decide_eq_true (by first | (with_reducible assumption) | assumption); obtain ⟨ad158, e158, hx158_0⟩ := Kd.at_int HR151_0.out (ji28) p158 q158; obtain rfl : ad155 = ad158 := (by injection e158); replace hx158_0 := (HB.out.cell (World.block_lt_of_cell? w _ hx158_0)).trans hx158_0; replace p158 := eq_true p158; replace q158 := eq_true q158))
                                              go_ret
                                              exact ⟨by first | rfl | (simp [errW_none, errW_some] <;> rfl) | (simp only [← hji28]; first | rfl | (simp [errW_none, errW_some] <;> rfl)) | (simp [*, errW_none, errW_some] <;> rfl), by repeat (first | (with_reducible first | exact HB.out | apply below_alloc | apply pw_below_drewN | apply below_drew1 | refine below_set ?_ GE148.out) | exact HB.out)⟩
                                            · rw [if_neg c31] at H
                                              have c31b0 : decide ((rd (rd_L1 l0_1 x26_2) x50_4) ≤ (rd (rd_L1 l0_1 x26_2) (ji28))) = false := decide_eq_false c31
                                              clear c31
                                              replace H := Option.bind_eq_some_iff.mp H
                                              obtain ⟨t159, A320, H⟩ := H
                                              replace H : (impl_IsValidGate.l1 k4 t159 (rd_L1 l0_1 x26_2) l0_1 (l0_1.length : Int) x26_2 (rd_L1 l0_1 x26_2) ((rd_L1 l0_1 x26_2).length : Int) (wrap64 (x50_4 + 1)) l0_0 l0_1) = some r := H
                                              have A32 := Aside0.mk A320
                                              clear A320
                                              have H' := Aside0.mk H
                                              clear H
                                              have p155 : 0 ≤ (x50_4 : Int) := of_decide_eq_true (by first | (with_reducible assumption) | assumption)
                                              have q155 : x50_4 < ((rd_L1 l0_1 x26_2).length : Int) := of_decide_eq_true (by first | (with_reducible assumption) | assumption)
                                              obtain ⟨ad155, e155, hx155_0⟩ := Kd.at_int HR151_0.out x50_4 p155 q155
                                              cases e155
                                              replace hx155_0 := (HB.out.cell (World.block_lt_of_cell? w _ hx155_0)).trans hx155_0
                                              replace p155 := eq_true p155
                                              replace q155 := eq_true q155
                                              go_wp2_with (first | ((with_reducible refine gate_callee (f := 28) rfl ?_); refine goesL_ (some 56) rfl rfl Try.func28 (by kernel_rfl) rfl #[.int .i64 (rd (rd_L1 l0_1 x26_2) x50_4), .int .i64 1, .int .i64 99] rfl (by (try simp only [List.map_toArray, List.map_cons, List.map_nil]); first | done | rfl | (simp only [List.length_drop, List.length_take]; rfl)) ?_; (with_reducible refine (impl_within.calls (rd (rd_L1 l0_1 x26_2) x50_4) 1 99 true _ A23.out).mono ?_); rintro e w' ⟨rfl, ⟨nd, rfl⟩⟩; refine ⟨_, rfl, ?_⟩) | (at_lookup; (try (refine gate_guard (by rfl) ?_; dsimp only)); refine mapSet_look (some 61) rfl rfl (.tmp 59) (.tmp 60) 46 3 4 rfl Try.underlying46 Try.underlying3 Try.underlying4 (fun _ => by kernel_rfl) (MapSet_below HM.out (by repeat (first | exact Below.refl _ _ | apply pw_below_drewN | apply below_drew1))) rfl (rd (rd_L1 l0_1 x26_2) x50_4) rfl _ (klook.of A25.out) ?_; have p158 : 0 ≤ ((ji28) : Int) := of_decide_eq_true (by first | (with_reducible assumption) | assumption); have q158 : (ji28) < ((rd_L1 l0_1 x26_2).length : Int) := of_decide_eq_true (by first | (with_reducible assumption) | assumption); obtain ⟨ad158, e158, hx158_0⟩ := Kd.at_int HR151_0.out (ji28) p158 q158; obtain rfl : ad155 = ad158 := (by injection e158); replace hx158_0 := (HB.out.cell (World.block_lt_of_cell? w _ hx158_0)).trans hx158_0; replace p158 := eq_true p158; replace q158 := eq_true q158) | (at_mapUpdate; (try (refine gate_guard (by rfl) ?_; dsimp only)); refine mapSet_put none rfl rfl (.tmp 76) (.tmp 77) (.const (.bool true)) 46 3 4 rfl Try.underlying46 Try.underlying3 Try.underlying4 (MapSet_below HM.out (by repeat (first | exact Below.refl _ _ | apply pw_below_drewN | apply below_drew1))) rfl (rd (rd_L1 l0_1 x26_2) x50_4) rfl rfl (kput.of A32.out) ?_; intro wu hMu hGu; have HMn := Aside0.mk hMu; have HBn := Aside0.mk (Below.grown (B := w.heap.size) (a := w) (by repeat (first | (with_reducible first | exact HB.out | apply below_alloc | apply pw_below_drewN | apply below_drew1) | exact HB.out)) hGu (Below.size (by repeat (first | (with_reducible first | exact HB.out | apply below_alloc | apply pw_below_drewN | apply below_drew1) | exact HB.out))) (fun j hj => by cases hj; exact HGE.out)); have BKn := Aside0.mk (blk_grown (g := gb148) (o := (.cells #[(.slice A0_0 l0_0.length c0_0), (.slice (some ad151) l0_1.length c0_1)] 28 (0, 0))) (by (with_reducible repeat (first | refine blk_drewN ?_ _ | refine blk_drew ?_ | refine blk_alloc ?_ _)); exact BK148.out) hGu (fun e_ => by have h_ := Option.some.inj e_; have g_ := HGB.out; omega)); clear hMu hGu HM HB BK148; have HM := HMn; have HB := HBn; have BK148 := BKn; clear HMn HBn BKn))
                                              go_roundg k4
                                              case measure => have := HJ1.out; have := HK2.out; have := HJ12.out; have := HK4.out; omega
                                              case rel => exact ⟨(t159), (wrap64 (x50_4 + 1)), (by first | rfl | (simp; done) | (simp [*]; done)), H', ⟨by have := HJ1.out; have := HK2.out; have := HJ12.out; have := HK4.out; omega⟩, ⟨by (with_reducible repeat (first | refine blk_drewN ?_ _ | refine blk_drew ?_ | refine blk_alloc ?_ _)); exact BK148.out⟩, ⟨by repeat (first | (with_reducible first | exact HB.out | apply below_alloc | apply pw_below_drewN | apply below_drew1 | refine below_set ?_ GE148.out) | exact HB.out)⟩, ⟨MapSet_below HM.out (by repeat (first | exact Below.refl _ _ | apply pw_below_drewN | apply below_drew1))⟩⟩
                                          · rw [if_neg c30] at H
                                            exact absurd H (by simp)
                                        · rw [if_neg c29] at H
                                          exact absurd H (by simp)
                                      · rw [if_neg c27] at H
                                        have c27b0 : decide (0 < x50_4) = false := decide_eq_false c27
                                        clear c27
                                        replace H := Option.bind_eq_some_iff.mp H
                                        obtain ⟨t160, A330, H⟩ := H
                                        replace H : (impl_IsValidGate.l1 k4 t160 (rd_L1 l0_1 x26_2) l0_1 (l0_1.length : Int) x26_2 (rd_L1 l0_1 x26_2) ((rd_L1 l0_1 x26_2).length : Int) (wrap64 (x50_4 + 1)) l0_0 l0_1) = some r := H
                                        have A33 := Aside0.mk A330
                                        clear A330
                                        have H' := Aside0.mk H
                                        clear H
                                        have p155 : 0 ≤ (x50_4 : Int) := of_decide_eq_true (by first | (with_reducible assumption) | assumption)
                                        have q155 : x50_4 < ((rd_L1 l0_1 x26_2).length : Int) := of_decide_eq_true (by first | (with_reducible assumption) | assumption)
                                        obtain ⟨ad155, e155, hx155_0⟩ := Kd.at_int HR151_0.out x50_4 p155 q155
                                        cases e155
                                        replace hx155_0 := (HB.out.cell (World.block_lt_of_cell? w _ hx155_0)).trans hx155_0
                                        replace p155 := eq_true p155
                                        replace q155 := eq_true q155
                                        go_wp2_with (first | ((with_reducible refine gate_callee (f := 28) rfl ?_); refine goesL_ (some 56) rfl rfl Try.func28 (by kernel_rfl) rfl #[.int .i64 (rd (rd_L1 l0_1 x26_2) x50_4), .int .i64 1, .int .i64 99] rfl (by (try simp only [List.map_toArray, List.map_cons, List.map_nil]); first | done | rfl | (simp only [List.length_drop, List.length_take]; rfl)) ?_; (with_reducible refine (impl_within.calls (rd (rd_L1 l0_1 x26_2) x50_4) 1 99 true _ A23.out).mono ?_); rintro e w' ⟨rfl, ⟨nd, rfl⟩⟩; refine ⟨_, rfl, ?_⟩) | (at_lookup; (try (refine gate_guard (by rfl) ?_; dsimp only)); refine mapSet_look (some 61) rfl rfl (.tmp 59) (.tmp 60) 46 3 4 rfl Try.underlying46 Try.underlying3 Try.underlying4 (fun _ => by kernel_rfl) (MapSet_below HM.out (by repeat (first | exact Below.refl _ _ | apply pw_below_drewN | apply below_drew1))) rfl (rd (rd_L1 l0_1 x26_2) x50_4) rfl _ (klook.of A25.out) ?_) | (at_mapUpdate; (try (refine gate_guard (by rfl) ?_; dsimp only)); refine mapSet_put none rfl rfl (.tmp 76) (.tmp 77) (.const (.bool true)) 46 3 4 rfl Try.underlying46 Try.underlying3 Try.underlying4 (MapSet_below HM.out (by repeat (first | exact Below.refl _ _ | apply pw_below_drewN | apply below_drew1))) rfl (rd (rd_L1 l0_1 x26_2) x50_4) rfl rfl (kput.of A33.out) ?_; intro wu hMu hGu; have HMn := Aside0.mk hMu; have HBn := Aside0.mk (Below.grown (B := w.heap.size) (a := w) (by repeat (first | (with_reducible first | exact HB.out | apply below_alloc | apply pw_below_drewN | apply below_drew1) | exact HB.out)) hGu (Below.size (by repeat (first | (with_reducible first | exact HB.out | apply below_alloc | apply pw_below_drewN | apply below_drew1) | exact HB.out))) (fun j hj => by cases hj; exact HGE.out)); have BKn := Aside0.mk (blk_grown (g := gb148) (o := (.cells #[(.slice A0_0 l0_0.length c0_0), (.slice (some ad151) l0_1.length c0_1)] 28 (0, 0))) (by (with_reducible repeat (first | refine blk_drewN ?_ _ | refine blk_drew ?_ | refine blk_alloc ?_ _)); exact BK148.out) hGu (fun e_ => by have h_ := Option.some.inj e_; have g_ := HGB.out; omega)); clear hMu hGu HM HB BK148; have HM := HMn; have HB := HBn; have BK148 := BKn; clear HMn HBn BKn))
                                        go_roundg k4
                                        case measure => have := HJ1.out; have := HK2.out; have := HJ12.out; have := HK4.out; omega
                                        case rel => exact ⟨(t160), (wrap64 (x50_4 + 1)), (by first | rfl | (simp; done) | (simp [*]; done)), H', ⟨by have := HJ1.out; have := HK2.out; have := HJ12.out; have := HK4.out; omega⟩, ⟨by (with_reducible repeat (first | refine blk_drewN ?_ _ | refine blk_drew ?_ | refine blk_alloc ?_ _)); exact BK148.out⟩, ⟨by repeat (first | (with_reducible first | exact HB.out | apply below_alloc | apply pw_below_drewN | apply below_drew1 | refine below_set ?_ GE148.out) | exact HB.out)⟩, ⟨MapSet_below HM.out (by repeat (first | exact Below.refl _ _ | apply pw_below_drewN | apply below_drew1))⟩⟩
                                  · replace c24 := Bool.eq_false_iff.mpr c24
                                    subst c24
                                    have H1 : (some false) = some r := by rw [if_neg (show ¬ (false = true) by decide)] at H; exact H
                                    clear H
                                    have H := H1
                                    clear H1
                                    obtain rfl := Option.some.inj H
                                    have p155 : 0 ≤ (x50_4 : Int) := of_decide_eq_true (by first | (with_reducible assumption) | assumption)
                                    have q155 : x50_4 < ((rd_L1 l0_1 x26_2).length : Int) := of_decide_eq_true (by first | (with_reducible assumption) | assumption)
                                    obtain ⟨ad155, e155, hx155_0⟩ := Kd.at_int HR151_0.out x50_4 p155 q155
                                    cases e155
                                    replace hx155_0 := (HB.out.cell (World.block_lt_of_cell? w _ hx155_0)).trans hx155_0
                                    replace p155 := eq_true p155
                                    replace q155 := eq_true q155
                                    go_wp2_with (first | ((with_reducible refine gate_callee (f := 28) rfl ?_); refine goesL_ (some 56) rfl rfl Try.func28 (by kernel_rfl) rfl #[.int .i64 (rd (rd_L1 l0_1 x26_2) x50_4), .int .i64 1, .int .i64 99] rfl (by (try simp only [List.map_toArray, List.map_cons, List.map_nil]); first | done | rfl | (simp only [List.length_drop, List.length_take]; rfl)) ?_; (with_reducible refine (impl_within.calls (rd (rd_L1 l0_1 x26_2) x50_4) 1 99 false _ A23.out).mono ?_); rintro e w' ⟨rfl, ⟨nd, rfl⟩⟩; refine ⟨_, rfl, ?_⟩))
                                    go_ret
                                    exact ⟨by first | rfl | (simp [errW_none, errW_some] <;> rfl) | (simp [*, errW_none, errW_some] <;> rfl), by repeat (first | (with_reducible first | exact HB.out | apply below_alloc | apply pw_below_drewN | apply below_drew1 | refine below_set ?_ GE148.out) | exact HB.out)⟩
                                · rw [if_neg c22] at H
                                  exact absurd H (by simp)
                              · rw [if_neg c21] at H
                                exact absurd H (by simp)
                            · rw [if_neg c20] at H
                              have c20b0 : decide (x50_4 < ((rd_L1 l0_1 x26_2).length : Int)) = false := decide_eq_false c20
                              clear c20
                              have H' := Aside0.mk H
                              clear H
                              go_wp2
                              go_roundg k4
                              case measure => have := HJ1.out; have := HK2.out; have := HJ12.out; have := HK4.out; omega
                              case rel => exact ⟨(x3_4), (wrap64 (x26_2 + 1)), (by first | rfl | (simp; done) | (simp [*]; done)), H', ⟨by have := HJ1.out; have := HK2.out; have := HJ12.out; have := HK4.out; omega⟩, ⟨by (with_reducible repeat (first | refine blk_drewN ?_ _ | refine blk_drew ?_ | refine blk_alloc ?_ _)); exact BK148.out⟩, ⟨by repeat (first | (with_reducible first | exact HB.out | apply below_alloc | apply pw_below_drewN | apply below_drew1 | refine below_set ?_ GE148.out) | exact HB.out)⟩, ⟨MapSet_below HM.out (by repeat (first | exact Below.refl _ _ | apply pw_below_drewN | apply below_drew1))⟩⟩
                · rw [if_neg c12] at H
                  exact absurd H (by simp)
              · rw [if_neg c11] at H
                exact absurd H (by simp)
            · rw [if_neg c10] at H
              have c10b0 : decide (x26_2 < (l0_1.length : Int)) = false := decide_eq_false c10
              clear c10
              replace H := Option.bind_eq_some_iff.mp H
              obtain ⟨t150, A340, H⟩ := H
              replace H : (some (decide (t150 ≤ 30))) = some r := H
              have A34 := Aside0.mk A340
              clear A340
              obtain rfl := Option.some.inj H
              go_wp2_with (first | (refine mapSet_len (some 81) rfl rfl (.tmp 80) 46 3 4 rfl Try.underlying46 (MapSet_below HM.out (by repeat (first | exact Below.refl _ _ | apply pw_below_drewN | apply below_drew1))) rfl _ (klen.of A34.out) ?_))
              go_ret
              exact ⟨by first | rfl | (simp [errW_none, errW_some] <;> rfl) | (simp [*, errW_none, errW_some] <;> rfl), by repeat (first | (with_reducible first | exact HB.out | apply below_alloc | apply pw_below_drewN | apply below_drew1 | refine below_set ?_ GE148.out) | exact HB.out)⟩

/-! ### laws_eqIntS: function 29 -/
def laws_eqIntS.l0 : Nat → List Int → List Int → Int → Option (Bool)
  | 0, _, _, _ => none
  | k + 1, x0, x1, x5 => if x5 < (x0.length : Int) then (if 0 ≤ x5 then (if x5 < (x1.length : Int) then (if (rd x0 x5) = (rd x1 x5) then (laws_eqIntS.l0 k x0 x1 (wrap64 (x5 + 1))) else (some false)) else (none)) else (none)) else (some true)
def laws_eqIntS.f (k : Nat) (l0 : List Int) (l1 : List Int) : Option (Bool) := if (l0.length : Int) = (l1.length : Int) then (laws_eqIntS.l0 k l0 l1 0) else (some false)
theorem laws_eqIntS.mono_l : ∀ k, (∀ y0 y1 y2, LeO (laws_eqIntS.l0 k y0 y1 y2) (laws_eqIntS.l0 (k + 1) y0 y1 y2))
  | 0 => fun _ _ _ r h => by simp [laws_eqIntS.l0] at h
  | k + 1 => by
    have ih0 := laws_eqIntS.mono_l k
    · intro y0 y1 y2
      unfold laws_eqIntS.l0
      repeat' first
      | (with_reducible exact ih0 _ _ _)
      | (with_reducible exact LeO.refl _)
      | (with_reducible exact LeO.none _)
      | (with_reducible refine LeO.ite ?_ ?_)
      | (with_reducible refine LeO.bind ?_ (fun _ => ?_))
      | exact ih0 _ _ _
      | exact LeO.none _
      | refine LeO.ite ?_ ?_
      | refine LeO.bind ?_ (fun _ => ?_)
theorem laws_eqIntS.mono : ∀ a0 a1 k, LeO (laws_eqIntS.f k a0 a1) (laws_eqIntS.f (k + 1) a0 a1) := by
  intro a0 a1 k
  have ih0 := laws_eqIntS.mono_l k
  unfold laws_eqIntS.f
  repeat' first
      | (with_reducible exact ih0 _ _ _)
      | (with_reducible exact LeO.refl _)
      | (with_reducible exact LeO.none _)
      | (with_reducible refine LeO.ite ?_ ?_)
      | (with_reducible refine LeO.bind ?_ (fun _ => ?_))
      | exact ih0 _ _ _
      | exact LeO.none _
      | refine LeO.ite ?_ ?_
      | refine LeO.bind ?_ (fun _ => ?_)
set_option maxHeartbeats 8000000 in
set_option maxRecDepth 100000 in
theorem laws_eqIntS.calls (k : Nat) (A0 : Option Addr) (c0 : Nat) (l0 : List Int) (A1 : Option Addr) (c1 : Nat) (l1 : List Int) (r : Bool) (w : World) (hr0 : Kd.C (Kd.int .i64) w A0 l0.length l0) (hc0 : l0.length ≤ c0) (hr1 : Kd.C (Kd.int .i64) w A1 l1.length l1) (hc1 : l1.length ≤ c1) (h : laws_eqIntS.f k l0 l1 = some r) :
    Calls Try.prog 29 #[.slice A0 l0.length c0, .slice A1 l1.length c1] w fun e w' => e = .returned (.bool r) ∧ Drawn0 w w' := by
  have HR0 := Aside0.mk hr0
  have HC0 := Aside0.mk hc0
  clear hr0 hc0
  have HR1 := Aside0.mk hr1
  have HC1 := Aside0.mk hc1
  clear hr1 hc1
  have H : (if (l0.length : Int) = (l1.length : Int) then (laws_eqIntS.l0 k l0 l1 0) else (some false)) = some r := h
  clear h
  by_cases c3 : (l0.length : Int) = (l1.length : Int)
  · rw [if_pos c3] at H
    have c3b0 : ((l0.length : Int) == (l1.length : Int)) = true := beq_iff_eq.mpr c3
    have c3b1 : ((l0.length : Int) != (l1.length : Int)) = false := bne_eq_false_iff_eq.mpr c3
    have c3b2 : (l0.length == l1.length) = true := by first | simpa using c3 | (simp at c3 ⊢; omega)
    clear c3
    have H' := Aside0.mk H
    clear H
    go_enter Try.func29, Try.ntmps29
    go_wp2
    repeat (go_quiet (fail); try go_wp2)
    go_loopg [5] k (fun kq v5 w' => ∃ (x5_1 : Int), v5 = .int .i64 x5_1 ∧ Aside0 (laws_eqIntS.l0 kq l0 l1 x5_1 = some r) ∧ Aside0 (kq ≤ k) ∧ Drawn0 w w')
    case atStart => exact ⟨(0), (by first | rfl | (simp; done) | (simp [*]; done)), H', ⟨Nat.le_refl _⟩, by repeat (first | exact Drawn0.refl _ | apply Drawn0.step)⟩
    case round =>
      clear H'
      try clear c1
      try clear c2
      try clear p2
      try clear c3
      try clear c3b0
      try clear c3b1
      try clear c3b2
      obtain ⟨x5_1, rfl, HA, HK1, ⟨m1, rfl⟩⟩ := hrel
      cases gk with
      | zero => exact absurd HA.out (by simp [laws_eqIntS.l0])
      | succ k1 =>
        have H := HA.out
        clear HA
        simp only [laws_eqIntS.l0] at H
        by_cases c4 : x5_1 < (l0.length : Int)
        · rw [if_pos c4] at H
          have c4b0 : decide (x5_1 < (l0.length : Int)) = true := decide_eq_true c4
          clear c4
          by_cases c5 : 0 ≤ x5_1
          · rw [if_pos c5] at H
            have c5b0 : decide (0 ≤ x5_1) = true := decide_eq_true c5
            clear c5
            by_cases c6 : x5_1 < (l1.length : Int)
            · rw [if_pos c6] at H
              have c6b0 : decide (x5_1 < (l1.length : Int)) = true := decide_eq_true c6
              clear c6
              by_cases c7 : (rd l0 x5_1) = (rd l1 x5_1)
              · rw [if_pos c7] at H
                have c7b0 : ((rd l0 x5_1) == (rd l1 x5_1)) = true := beq_iff_eq.mpr c7
                have c7b1 : ((rd l0 x5_1) != (rd l1 x5_1)) = false := bne_eq_false_iff_eq.mpr c7
                clear c7
                have H' := Aside0.mk H
                clear H
                have p161 : 0 ≤ (x5_1 : Int) := of_decide_eq_true (by first | (with_reducible assumption) | assumption)
                have q161 : x5_1 < (l0.length : Int) := of_decide_eq_true (by first | (with_reducible assumption) | assumption)
                obtain ⟨ad161, e161, hx161_0⟩ := Kd.at_int HR0.out x5_1 p161 q161
                cases e161
                replace p161 := eq_true p161
                replace q161 := eq_true q161
                have p162 : 0 ≤ (x5_1 : Int) := of_decide_eq_true (by first | (with_reducible assumption) | assumption)
                have q162 : x5_1 < (l1.length : Int) := of_decide_eq_true (by first | (with_reducible assumption) | assumption)
                obtain ⟨ad162, e162, hx162_0⟩ := Kd.at_int HR1.out x5_1 p162 q162
                cases e162
                replace p162 := eq_true p162
                replace q162 := eq_true q162
                go_wp2
                repeat (go_quiet (fail); try go_wp2)
                go_roundg k1
                case measure => have := HK1.out; omega
                case rel => exact ⟨(wrap64 (x5_1 + 1)), (by first | rfl | (simp; done) | (simp [*]; done)), H', ⟨by have := HK1.out; omega⟩, by repeat (first | exact Drawn0.refl _ | apply Drawn0.step)⟩
              · rw [if_neg c7] at H
                have c7b0 : ((rd l0 x5_1) == (rd l1 x5_1)) = false := beq_eq_false_iff_ne.mpr c7
                have c7b1 : ((rd l0 x5_1) != (rd l1 x5_1)) = true := bne_iff_ne.mpr c7
                obtain rfl := Option.some.inj H
                have p161 : 0 ≤ (x5_1 : Int) := of_decide_eq_true (by first | (with_reducible assumption) | assumption)
                have q161 : x5_1 < (l0.length : Int) := of_decide_eq_true (by first | (with_reducible assumption) | assumption)
                obtain ⟨ad161, e161, hx161_0⟩ := Kd.at_int HR0.out x5_1 p161 q161
                cases e161
                replace p161 := eq_true p161
                replace q161 := eq_true q161
                have p162 : 0 ≤ (x5_1 : Int) := of_decide_eq_true (by first | (with_reducible assumption) | assumption)
                have q162 : x5_1 < (l1.length : Int) := of_decide_eq_true (by first | (with_reducible assumption) | assumption)
                obtain ⟨ad162, e162, hx162_0⟩ := Kd.at_int HR1.out x5_1 p162 q162
                cases e162
                replace p162 := eq_true p162
                replace q162 := eq_true q162
                go_wp2
                repeat (go_quiet (fail); try go_wp2)
                go_ret
                exact ⟨by first | rfl | (simp; done) | (simp [*]; done), by repeat (first | exact Drawn0.refl _ | apply Drawn0.step)⟩
            · rw [if_neg c6] at H
              exact absurd H (by simp)
          · rw [if_neg c5] at H
            exact absurd H (by simp)
        · rw [if_neg c4] at H
          have c4b0 : decide (x5_1 < (l0.length : Int)) = false := decide_eq_false c4
          clear c4
          obtain rfl := Option.some.inj H
          go_wp2
          repeat (go_quiet (fail); try go_wp2)
          go_ret
          exact ⟨by first | rfl | (simp; done) | (simp [*]; done), by repeat (first | exact Drawn0.refl _ | apply Drawn0.step)⟩
  · rw [if_neg c3] at H
    have c3b0 : ((l0.length : Int) == (l1.length : Int)) = false := beq_eq_false_iff_ne.mpr c3
    have c3b1 : ((l0.length : Int) != (l1.length : Int)) = true := bne_iff_ne.mpr c3
    have c3b2 : (l0.length == l1.length) = false := by first | simpa using c3 | (simp at c3 ⊢; omega)
    obtain rfl := Option.some.inj H
    go_enter Try.func29, Try.ntmps29
    go_wp2
    repeat (go_quiet (fail); try go_wp2)
    go_ret
    exact ⟨by first | rfl | (simp; done) | (simp [*]; done), by repeat (first | exact Drawn0.refl _ | apply Drawn0.step)⟩

end Go.Proofs.Ytpflhkjdjcfonaa.PFnExactIsValidGate
