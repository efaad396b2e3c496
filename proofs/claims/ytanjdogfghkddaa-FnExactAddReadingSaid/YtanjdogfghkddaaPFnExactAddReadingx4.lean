-- Written by a program of this session, over the kit's print (wip/xprint.py)
import Derived.Test.YtanjdogfghkddaaPFnExactAddReadingx0
namespace Go.Proofs.Ytanjdogfghkddaa.PFnExactAddReading
open Go.RowKit Go.Proofs.YtanjdogfghkddaaW.PrintWords Go.Proofs.YtanjdogfghkddaaW.PrintLast Go.Proofs.YtanjdogfghkddaaW.PrintMore
attribute [local go_sem] max2_int min2_int max_two min_two max_three min_three max_four min_four   -- for this text's walks alone
set_option linter.unusedVariables false
set_option linter.unusedSimpArgs false

/-! ### laws_toReading: function 7 -/
def laws_toReading.f (a0_0 : Int) (a0_1 : Int) (a0_2 : Bool) : Option (Int × Int × Bool) := some (a0_0, a0_1, a0_2)
set_option maxHeartbeats 8000000 in
set_option maxRecDepth 100000 in
theorem laws_toReading.calls (a0_0 : Int) (a0_1 : Int) (a0_2 : Bool) (r1 : Int) (r2 : Int) (r3 : Bool) (w : World) (h : laws_toReading.f a0_0 a0_1 a0_2 = some (r1, r2, r3)) :
    Calls Try.prog 7 #[.agg #[.int .i64 a0_0, .int .i64 a0_1, .bool a0_2]] w fun e w' => e = .returned (.agg #[.int .i64 r1, .int .i64 r2, .bool r3]) ∧ Below w.heap.size w w' := by
  have hu24 := Try.underlying24
  have hu30 := Try.underlying30
  have HB := Aside0.mk (Below.refl w.heap.size w)
  have H : (some (a0_0, a0_1, a0_2)) = some (r1, r2, r3) := h
  clear h
  simp only [Option.some.injEq, Prod.mk.injEq] at H
  obtain ⟨rfl, rfl, rfl⟩ := H
  go_enter Try.func7, Try.ntmps7
  go_wp2_with (first | ((with_reducible refine gate_dst (N := 1) rfl ?_); refine box_event ?hg (N := 1) ?hd (cs := #[.int .i64 a0_0, .int .i64 a0_1, .bool a0_2]) (t := 24) ?hr ?_; (case hd => rfl); (case hg => rfl); (case hr => (go_simp; done)); intro gb167 hg w2 hbox hb; have n0_ := Aside0.mk (below_step (by exact HB.out) hb); have n1_ := Aside0.mk (hbox); have n2_ := Aside0.mk ((by rw [hg]; exact (below_size (by exact HB.out)) : w.heap.size ≤ gb167)); have n3_ := Aside0.mk ((by rw [hg]; exact (below_size (by exact HB.out)) : w.heap.size ≤ gb167)); clear HB; have HB := n0_; have BK167 := n1_; have GW167 := n2_; have GE167 := n3_; clear n0_ n1_ n2_ n3_; clear hb hbox hg) | ((with_reducible refine gate_dst (N := 2) rfl ?_); refine box_event ?hg (N := 2) ?hd (cs := #[.int .i64 0, .int .i64 0, .bool false]) (t := 30) ?hr ?_; (case hd => rfl); (case hg => rfl); (case hr => (go_simp; done)); intro gb168 hg w3 hbox hb; have n0_ := Aside0.mk (blk_below (g := gb167) (o := .cells #[.int .i64 a0_0, .int .i64 a0_1, .bool a0_2] 24 (0, 0)) (by exact BK167.out) hb); have n1_ := Aside0.mk (below_step (by exact HB.out) hb); have n2_ := Aside0.mk (hbox); have n3_ := Aside0.mk ((by rw [hg]; exact (below_size (by exact HB.out)) : w.heap.size ≤ gb168)); have n4_ := Aside0.mk ((by rw [hg]; exact (below_size (by exact HB.out)) : w.heap.size ≤ gb168)); have n5_ := Aside0.mk ((by rw [hg]; exact Nat.ne_of_lt (blk_lt (g := gb167) (o := .cells #[.int .i64 a0_0, .int .i64 a0_1, .bool a0_2] 24 (0, 0)) (by exact BK167.out)) : gb167 ≠ gb168)); have n6_ := Aside0.mk ((by rw [hg]; exact Nat.ne_of_gt (blk_lt (g := gb167) (o := .cells #[.int .i64 a0_0, .int .i64 a0_1, .bool a0_2] 24 (0, 0)) (by exact BK167.out)) : gb168 ≠ gb167)); clear BK167; clear HB; have BK167 := n0_; have HB := n1_; have BK168 := n2_; have GW168 := n3_; have GE168 := n4_; have NB167_168 := n5_; have NB168_167 := n6_; clear n0_ n1_ n2_ n3_ n4_ n5_ n6_; clear hb hbox hg) | ((with_reducible refine gate_dst (N := 3) rfl ?_); refine box_event ?hg (N := 3) ?hd (cs := #[.int .i64 0, .int .i64 0, .bool false]) (t := 30) ?hr ?_; (case hd => rfl); (case hg => rfl); (case hr => (go_simp; done)); intro gb169 hg w4 hbox hb; have n0_ := Aside0.mk (blk_below (g := gb167) (o := .cells #[.int .i64 a0_0, .int .i64 a0_1, .bool a0_2] 24 (0, 0)) (by exact BK167.out) hb); have n1_ := Aside0.mk (blk_below (g := gb168) (o := .cells #[.int .i64 0, .int .i64 0, .bool false] 30 (0, 0)) (by exact BK168.out) hb); have n2_ := Aside0.mk (below_step (by exact HB.out) hb); have n3_ := Aside0.mk (hbox); have n4_ := Aside0.mk ((by rw [hg]; exact (below_size (by exact HB.out)) : w.heap.size ≤ gb169)); have n5_ := Aside0.mk ((by rw [hg]; exact (below_size (by exact HB.out)) : w.heap.size ≤ gb169)); have n6_ := Aside0.mk ((by rw [hg]; exact Nat.ne_of_lt (blk_lt (g := gb167) (o := .cells #[.int .i64 a0_0, .int .i64 a0_1, .bool a0_2] 24 (0, 0)) (by exact BK167.out)) : gb167 ≠ gb169)); have n7_ := Aside0.mk ((by rw [hg]; exact Nat.ne_of_gt (blk_lt (g := gb167) (o := .cells #[.int .i64 a0_0, .int .i64 a0_1, .bool a0_2] 24 (0, 0)) (by exact BK167.out)) : gb169 ≠ gb167)); have n8_ := Aside0.mk ((by rw [hg]; exact Nat.ne_of_lt (blk_lt (g := gb168) (o := .cells #[.int .i64 0, .int .i64 0, .bool false] 30 (0, 0)) (by exact BK168.out)) : gb168 ≠ gb169)); have n9_ := Aside0.mk ((by rw [hg]; exact Nat.ne_of_gt (blk_lt (g := gb168) (o := .cells #[.int .i64 0, .int .i64 0, .bool false] 30 (0, 0)) (by exact BK168.out)) : gb169 ≠ gb168)); clear BK167; clear BK168; clear HB; have BK167 := n0_; have BK168 := n1_; have HB := n2_; have BK169 := n3_; have GW169 := n4_; have GE169 := n5_; have NB167_169 := n6_; have NB169_167 := n7_; have NB168_169 := n8_; have NB169_168 := n9_; clear n0_ n1_ n2_ n3_ n4_ n5_ n6_ n7_ n8_ n9_; clear hb hbox hg; have hnb5 := NB167_168.out; have hnc5 := NB168_167.out; have hnb6 := NB167_169.out; have hnc6 := NB169_167.out; have hcz7_0 : w4.cell? ⟨gb167, 0, none⟩ = some (.int .i64 a0_0) := (blk_cell BK167.out 0).trans rfl; have hcz7_1 : w4.cell? ⟨gb167, 1, none⟩ = some (.int .i64 a0_1) := (blk_cell BK167.out 1).trans rfl; have hcz7_2 : w4.cell? ⟨gb167, 2, none⟩ = some (.bool a0_2) := (blk_cell BK167.out 2).trans rfl; have hfz7_0 := blk_frozen BK167.out 0; have hfz7_1 := blk_frozen BK167.out 1; have hfz7_2 := blk_frozen BK167.out 2; have hnb8 := NB169_168.out; have hnc8 := NB168_169.out; have hcz9_0 : w4.cell? ⟨gb169, 0, none⟩ = some (.int .i64 0) := (blk_cell BK169.out 0).trans rfl; have hcz9_1 : w4.cell? ⟨gb169, 1, none⟩ = some (.int .i64 0) := (blk_cell BK169.out 1).trans rfl; have hcz9_2 : w4.cell? ⟨gb169, 2, none⟩ = some (.bool false) := (blk_cell BK169.out 2).trans rfl; have hfz9_0 := blk_frozen BK169.out 0; have hfz9_1 := blk_frozen BK169.out 1; have hfz9_2 := blk_frozen BK169.out 2; have hcz10_0 : w4.cell? ⟨gb168, 0, none⟩ = some (.int .i64 0) := (blk_cell BK168.out 0).trans rfl; have hcz10_1 : w4.cell? ⟨gb168, 1, none⟩ = some (.int .i64 0) := (blk_cell BK168.out 1).trans rfl; have hcz10_2 : w4.cell? ⟨gb168, 2, none⟩ = some (.bool false) := (blk_cell BK168.out 2).trans rfl; have hfz10_0 := blk_frozen BK168.out 0; have hfz10_1 := blk_frozen BK168.out 1; have hfz10_2 := blk_frozen BK168.out 2))
  refine bodyPost_ret (results_cell_row rfl _ _ gb168 30 #[.int .i64 a0_0, .int .i64 a0_1, .bool a0_2] (0, 0) _ rfl (by refine blk_put (cs := #[.int .i64 a0_0, .int .i64 a0_1, .bool false]) ?_ 2 _ rfl; refine blk_put (cs := #[.int .i64 a0_0, .int .i64 0, .bool false]) ?_ 1 _ rfl; refine blk_put (cs := #[.int .i64 0, .int .i64 0, .bool false]) ?_ 0 _ rfl; refine blk_far ?_ NB168_169.out _; refine blk_far ?_ NB168_169.out _; refine blk_far ?_ NB168_169.out _; exact BK168.out) Try.underlying30 rfl (by kernel_rfl)) rfl ?_
  exact ⟨by rfl, by repeat ((with_reducible first | exact HB.out | refine below_set ?_ GE168.out | refine below_set ?_ GE169.out))⟩

/-! ### laws_toReadingS: function 6 -/
def laws_toReadingS.l0 : Nat → List (S24) → List (S30) → Int → Option ((List (S30)))
  | 0, _, _, _ => none
  | k + 1, x0, x3, x4 => if x4 < (x0.length : Int) then (if 0 ≤ x4 then ((laws_toReading.f ((rd_T24 x0 x4).f0) ((rd_T24 x0 x4).f1) ((rd_T24 x0 x4).f2)).bind fun bt174 => (if x4 < (x3.length : Int) then (laws_toReadingS.l0 k x0 (x3.set (x4 : Int).toNat (⟨bt174.1, bt174.2.1, bt174.2.2⟩ : S30)) (wrap64 (x4 + 1))) else (none))) else (none)) else (some x3)
def laws_toReadingS.f (k : Nat) (l0 : List (S24)) : Option ((List (S30))) := if 0 ≤ (l0.length : Int) then (if ((l0.length : Int) : Int).toNat ≤ 11728124029610 then (laws_toReadingS.l0 k l0 (List.replicate ((l0.length : Int) : Int).toNat z30) 0) else (none)) else (none)
theorem laws_toReadingS.mono_l : ∀ k, (∀ y0 y1 y2, LeO (laws_toReadingS.l0 k y0 y1 y2) (laws_toReadingS.l0 (k + 1) y0 y1 y2))
  | 0 => fun _ _ _ r h => by simp [laws_toReadingS.l0] at h
  | k + 1 => by
    have ih0 := laws_toReadingS.mono_l k
    · intro y0 y1 y2
      unfold laws_toReadingS.l0
      repeat' first
      | (with_reducible exact ih0 _ _ _)
      | (with_reducible exact LeO.refl _)
      | (with_reducible exact LeO.none _)
      | (with_reducible refine LeO.ite ?_ ?_)
      | (with_reducible refine LeO.bind ?_ (fun _ => ?_))
      | exact ih0 _ _ _
      | exact LeO.none _
      | refine LeO.ite ?_ ?_
      | refine LeO.bind ?_ (fun _ => ?_)
theorem laws_toReadingS.mono : ∀ a0 k, LeO (laws_toReadingS.f k a0) (laws_toReadingS.f (k + 1) a0) := by
  intro a0 k
  have ih0 := laws_toReadingS.mono_l k
  unfold laws_toReadingS.f
  repeat' first
      | (with_reducible exact ih0 _ _ _)
      | (with_reducible exact LeO.refl _)
      | (with_reducible exact LeO.none _)
      | (with_reducible refine LeO.ite ?_ ?_)
      | (with_reducible refine LeO.bind ?_ (fun _ => ?_))
      | exact ih0 _ _ _
      | exact LeO.none _
      | refine LeO.ite ?_ ?_
      | refine LeO.bind ?_ (fun _ => ?_)
set_option maxHeartbeats 8000000 in
set_option maxRecDepth 100000 in
theorem laws_toReadingS.calls (k : Nat) (A0 : Option Addr) (c0 : Nat) (l0 : List (S24)) (r : List (S30)) (w : World) (hr0 : Kd.C k24 w A0 l0.length l0) (hc0 : l0.length ≤ c0) (h : laws_toReadingS.f k l0 = some r) :
    Calls Try.prog 6 #[.slice A0 l0.length c0] w fun e w' => ∃ v0_ : Value, e = .returned (v0_) ∧ Kd.R k30 30 w' w.heap.size (fun _ => True) v0_ r ∧ Below w.heap.size w w' := by
  have hu24 := Try.underlying24
  have hu30 := Try.underlying30
  have HR0 := Aside0.mk hr0
  have HC0 := Aside0.mk hc0
  clear hr0 hc0
  have HB := Aside0.mk (Below.refl w.heap.size w)
  have H : (if 0 ≤ (l0.length : Int) then (if ((l0.length : Int) : Int).toNat ≤ 11728124029610 then (laws_toReadingS.l0 k l0 (List.replicate ((l0.length : Int) : Int).toNat z30) 0) else (none)) else (none)) = some r := h
  clear h
  by_cases c2 : 0 ≤ (l0.length : Int)
  · rw [if_pos c2] at H
    have c2b0 := eq_true c2
    have c2b1 : decide (0 ≤ (l0.length : Int)) = true := decide_eq_true c2
    clear c2
    by_cases c3 : ((l0.length : Int) : Int).toNat ≤ 11728124029610
    · rw [if_pos c3] at H
      have c3b0 := eq_true c3
      have c3b1 : decide (((l0.length : Int) : Int).toNat ≤ 11728124029610) = true := decide_eq_true c3
      clear c3
      obtain ⟨y170, hy170⟩ : ∃ y_ : List (S30), y_ = (List.replicate ((l0.length : Int) : Int).toNat z30) := ⟨_, rfl⟩
      replace H : (laws_toReadingS.l0 k l0 y170 0) = some r := by (rw [hy170]; with_reducible exact H)
      have Ny170 := Aside0.mk hy170
      clear hy170
      have H' := Aside0.mk H
      clear H
      go_enter Try.func6, Try.ntmps6
      go_wp2_with (((with_reducible refine gate_dst (N := 7) rfl ?_); refine Kd.R_make k30 _ 30 rfl (N := 7) rfl 26 _ _ rfl (l0.length : Int) rfl rfl Try.underlying26 (.agg #[(.int .i64 0), (.int .i64 0), (.bool false)]) 24 info30 rfl (by decide) (by omega) z30 (ok := fun _ => True) (okp := fun _ => True) (k30_mkM _ _ _ z30 ) (fun _ hk => hk) trivial (of_decide_eq_true (by (with_reducible assumption))) (Nat.le_trans (Nat.mul_le_mul_right _ (of_decide_eq_true (by (with_reducible assumption)) : (l0.length : Int).toNat ≤ 11728124029610)) (by omega)) (Below.refl _ _) (Nat.le_refl _) ?_; intro v171 w4 ho5 hb hg_ hnew_; clear hg_ hnew_; (rw [← Ny170.out] at ho5); have n0_ := Aside0.mk (Kd.R_lower ho5 (below_size (by exact HB.out))); have n1_ := Aside0.mk (below_step (by exact HB.out) hb); clear HB; have HO172 := n0_; have HB := n1_; clear n0_ n1_; clear hb ho5))
      (skip)
      go_loopg [4] k (fun kq v4 w' => ∃ (x3_1 : List (S30)) (x4_1 : Int), v4 = .int .i64 x4_1 ∧ Aside0 (laws_toReadingS.l0 kq l0 x3_1 x4_1 = some r) ∧ Aside0 (kq ≤ k) ∧ Aside0 (Kd.R k30 30 w' w.heap.size (fun _ => True) v171 x3_1) ∧ Aside0 (Below w.heap.size w w'))
      case atStart => exact ⟨(y170), (0), (by rfl), H', ⟨Nat.le_refl _⟩, ⟨by exact HO172.out⟩, ⟨by exact HB.out⟩⟩
      case round =>
        clear H'
        try clear c2
        try clear c2b0
        try clear c2b1
        try clear p2
        try clear c3
        try clear c3b0
        try clear c3b1
        obtain ⟨x3_1, x4_1, rfl, HA, HK1, HO_3, HB⟩ := hrel
        cases gk with
        | zero => exact absurd HA.out (by simp [laws_toReadingS.l0])
        | succ k1 =>
          have H := HA.out
          clear HA
          simp only [laws_toReadingS.l0] at H
          by_cases c6 : x4_1 < (l0.length : Int)
          · rw [if_pos c6] at H
            have c6b0 : decide (x4_1 < (l0.length : Int)) = true := decide_eq_true c6
            clear c6
            by_cases c7 : 0 ≤ x4_1
            · rw [if_pos c7] at H
              have c7b0 : decide (0 ≤ x4_1) = true := decide_eq_true c7
              clear c7
              replace H := Option.bind_eq_some_iff.mp H
              obtain ⟨⟨t174, t175, t176⟩, A80, H⟩ := H
              replace H : (if x4_1 < (x3_1.length : Int) then (laws_toReadingS.l0 k1 l0 (x3_1.set (x4_1 : Int).toNat (⟨t174, t175, t176⟩ : S30)) (wrap64 (x4_1 + 1))) else (none)) = some r := H
              have A8 := Aside0.mk A80
              clear A80
              by_cases c9 : x4_1 < (x3_1.length : Int)
              · rw [if_pos c9] at H
                have c9b0 : decide (x4_1 < (x3_1.length : Int)) = true := decide_eq_true c9
                clear c9
                obtain ⟨y177, hy177⟩ : ∃ y_ : List (S30), y_ = (x3_1.set (x4_1 : Int).toNat (⟨t174, t175, t176⟩ : S30)) := ⟨_, rfl⟩
                replace H : (laws_toReadingS.l0 k1 l0 y177 (wrap64 (x4_1 + 1))) = some r := by (rw [hy177]; with_reducible exact H)
                have Ny177 := Aside0.mk hy177
                clear hy177
                have H' := Aside0.mk H
                clear H
                have p173 : 0 ≤ (x4_1 : Int) := of_decide_eq_true (by (with_reducible assumption))
                have q173 : x4_1 < (l0.length : Int) := of_decide_eq_true (by (with_reducible assumption))
                obtain ⟨ad173, e173, hx173_0, hx173_1, hx173_2⟩ := at_T24 HR0.out x4_1 p173 q173
                cases e173
                replace hx173_0 := (HB.out.cell (World.block_lt_of_cell? w _ hx173_0)).trans hx173_0
                replace hx173_1 := (HB.out.cell (World.block_lt_of_cell? w _ hx173_1)).trans hx173_1
                replace hx173_2 := (HB.out.cell (World.block_lt_of_cell? w _ hx173_2)).trans hx173_2
                replace p173 := eq_true p173
                replace q173 := eq_true q173
                go_wp2_with (first | ((with_reducible refine gate_callee (f := 7) rfl ?_); refine goesL_ (some 20) rfl rfl Try.func7 (by kernel_rfl) rfl #[.agg #[.int .i64 ((rd_T24 l0 x4_1).f0), .int .i64 ((rd_T24 l0 x4_1).f1), .bool ((rd_T24 l0 x4_1).f2)]] rfl (by (try simp only [List.map_toArray, List.map_cons, List.map_nil]); rfl) ?_; (with_reducible refine (laws_toReading.calls ((rd_T24 l0 x4_1).f0) ((rd_T24 l0 x4_1).f1) ((rd_T24 l0 x4_1).f2) t174 t175 t176 _ A8.out).mono ?_); rintro e w11 ⟨rfl, hb⟩; refine ⟨_, rfl, ?_⟩; have n0_ := Aside0.mk (Kd.R_below (by exact HO_3.out) hb); have n1_ := Aside0.mk (below_step (by exact HB.out) hb); clear HO_3; clear HB; have HO_3 := n0_; have HB := n1_; clear n0_ n1_; (try clear hb); have p10 : 0 ≤ (x4_1 : Int) := of_decide_eq_true (by (with_reducible assumption)); have q10 : (x4_1 : Int) < ((x3_1.length : Int) : Int) := of_decide_eq_true (by (with_reducible assumption)); obtain ⟨go10, co10, eo10, gb10, gl10, cl10, HG10⟩ := Kd.R_form HO_3.out (by omega); (cases eo10); have GB10 := Aside0.mk gb10; have GG10 := Aside0.mk HG10; clear gb10 gl10 HG10; obtain ⟨ce10, hcl10, hM10, hcc10, hfr10⟩ := Kd.R_elem HO_3.out z30 (x4_1 : Int) p10 q10; obtain rfl := k30_openM hM10; have hx10_0 : w11.cell? ⟨go10, (x4_1 : Int).toNat * 3, none⟩ = some (.int .i64 ((rd_T30 x3_1 x4_1).f0)) := hcc10 0 _ rfl; have hx10_1 : w11.cell? ⟨go10, (x4_1 : Int).toNat * 3 + 1, none⟩ = some (.int .i64 ((rd_T30 x3_1 x4_1).f1)) := hcc10 1 _ rfl; have hx10_2 : w11.cell? ⟨go10, (x4_1 : Int).toNat * 3 + 2, none⟩ = some (.bool ((rd_T30 x3_1 x4_1).f2)) := hcc10 2 _ rfl; have hf10_0 : w11.frozen? ⟨go10, (x4_1 : Int).toNat * 3, none⟩ = false := hfr10 0; have hf10_1 : w11.frozen? ⟨go10, (x4_1 : Int).toNat * 3 + 1, none⟩ = false := hfr10 1; have hf10_2 : w11.frozen? ⟨go10, (x4_1 : Int).toNat * 3 + 2, none⟩ = false := hfr10 2; clear hcl10 hcc10 hfr10; (try clear hM10); replace p10 := eq_true p10; replace q10 := eq_true q10; have HX12 := Aside0.mk (show Kd.R k30 30 w11 w.heap.size (fun _ => True) (.slice (some ⟨go10, 0, none⟩) x3_1.length co10) x3_1 from (by exact HO_3.out)); obtain ⟨ce12, hcl12, hM12, hcc12, hfr12⟩ := Kd.R_elem HX12.out z30 (x4_1 : Int) (of_decide_eq_true (by (with_reducible assumption))) (by have h_ : (x4_1 : Int) < ((x3_1.length : Int) : Int) := of_decide_eq_true (by (with_reducible assumption)); exact h_); obtain rfl := k30_openM hM12; have HP12 := Kd.R_seg HX12.out (x4_1 : Int) (of_decide_eq_true (by (with_reducible assumption))) (by have h_ : (x4_1 : Int) < ((x3_1.length : Int) : Int) := of_decide_eq_true (by (with_reducible assumption)); exact h_) (seg := [.int .i64 t174, .int .i64 t175, .bool t176]) (j := 0) hcl12 hcc12 (show 3 ≤ 3 from by decide) (x' := (⟨t174, t175, t176⟩ : S30)) (k30_mkM _ _ _ (⟨t174, t175, t176⟩ : S30) ) (fun _ hk => hk); have hx12_0 := hcc12 0 _ rfl; (try simp only [show (k30).sz = 3 from rfl, Nat.mul_one, Nat.add_zero] at hx12_0); have hf12_0 := hfr12 0; (try simp only [show (k30).sz = 3 from rfl, Nat.mul_one, Nat.add_zero] at hf12_0); have hx12_1 := hcc12 1 _ rfl; (try simp only [show (k30).sz = 3 from rfl, Nat.mul_one, Nat.add_zero] at hx12_1); have hf12_1 := hfr12 1; (try simp only [show (k30).sz = 3 from rfl, Nat.mul_one, Nat.add_zero] at hf12_1); have hx12_2 := hcc12 2 _ rfl; (try simp only [show (k30).sz = 3 from rfl, Nat.mul_one, Nat.add_zero] at hx12_2); have hf12_2 := hfr12 2; (try simp only [show (k30).sz = 3 from rfl, Nat.mul_one, Nat.add_zero] at hf12_2); clear hcl12 hcc12 hfr12; (try clear hM12)) | ((with_reducible refine gate_store (t := 30) (p := 21) rfl ?_); refine store_event (t := 30) (p := 21) (v := ?vo_w13) (w1 := (((w11.setCell ⟨go10, (x4_1 : Int).toNat * 3, none⟩ (.int .i64 t174)).setCell ⟨go10, (x4_1 : Int).toNat * 3 + 1, none⟩ (.int .i64 t175)).setCell ⟨go10, (x4_1 : Int).toNat * 3 + 2, none⟩ (.bool t176))) ?hg ?ho ?hn ?hr ?_; (case ho => rfl); (case hg => rfl); (case hn => rfl); (case hr => (go_simp; done)); intro w13 hw; have hg : w11.grownBy w13 (some go10) := (by rw [hw]; exact HP12.2); have hp_ : Kd.R k30 30 w13 w.heap.size (fun _ => True) (.slice (some ⟨go10, 0, none⟩) x3_1.length co10) y177 := (by rw [hw, Ny177.out]; exact HP12.1); clear HP12; have n0_ := Aside0.mk (hp_); have n1_ := Aside0.mk ((by rw [hw]; exact below_set (below_set (below_set (HB.out) GB10.out) GB10.out) GB10.out : Below w.heap.size w w13)); clear HO_3; clear HB; have HO_3 := n0_; have HB := n1_; clear n0_ n1_; clear hg hw hp_))
                go_roundg k1
                case measure => have := HK1.out; omega
                case rel => exact ⟨(y177), (wrap64 (x4_1 + 1)), (by rfl), H', ⟨by have := HK1.out; omega⟩, ⟨by exact HO_3.out⟩, ⟨by exact HB.out⟩⟩
              · rw [if_neg c9] at H
                exact absurd H (by simp)
            · rw [if_neg c7] at H
              exact absurd H (by simp)
          · rw [if_neg c6] at H
            have c6b0 : decide (x4_1 < (l0.length : Int)) = false := decide_eq_false c6
            clear c6
            obtain rfl := Option.some.inj H
            go_wp2
            go_ret
            exact ⟨_, by rfl, by exact HO_3.out, by exact HB.out⟩
    · rw [if_neg c3] at H
      exact absurd H (by simp)
  · rw [if_neg c2] at H
    exact absurd H (by simp)

/-! ### impl_within: function 18 -/
def impl_within.f (a0 : Int) (a1 : Int) (a2 : Int) : Option (Bool) := if a0 ≥ a1 then (some (decide (a0 ≤ a2))) else (some false)
set_option maxHeartbeats 8000000 in
set_option maxRecDepth 100000 in
theorem impl_within.calls (a0 : Int) (a1 : Int) (a2 : Int) (r : Bool) (w : World) (h : impl_within.f a0 a1 a2 = some r) :
    Calls Try.prog 18 #[.int .i64 a0, .int .i64 a1, .int .i64 a2] w fun e w' => e = .returned (.bool r) ∧ Drawn0 w w' := by
  have H : (if a0 ≥ a1 then (some (decide (a0 ≤ a2))) else (some false)) = some r := h
  clear h
  by_cases c4 : a0 ≥ a1
  · rw [if_pos c4] at H
    have c4b0 : decide (a1 ≤ a0) = true := decide_eq_true c4
    clear c4
    obtain rfl := Option.some.inj H
    go_enter Try.func18, Try.ntmps18
    go_wp2
    go_ret
    exact ⟨by rfl, by repeat (exact Drawn0.refl _)⟩
  · rw [if_neg c4] at H
    have c4b0 : decide (a1 ≤ a0) = false := decide_eq_false c4
    clear c4
    obtain rfl := Option.some.inj H
    go_enter Try.func18, Try.ntmps18
    go_wp2
    go_ret
    exact ⟨by rfl, by repeat (exact Drawn0.refl _)⟩

/-! ### impl_IsValidReadings: function 13 -/
def impl_IsValidReadings.l0 : Nat → List (S30) → List (S30) → Int → Int → Option (Bool)
  | 0, _, _, _, _ => none
  | k + 1, x0, x5, x6, x7 => if x7 < x6 then (if 0 ≤ x7 then (if x7 < (x5.length : Int) then ((impl_within.f ((rd_T30 x5 x7).f0) 0 240).bind fun t180 => (if t180 = true then ((impl_within.f ((rd_T30 x5 x7).f1) (-400) 400).bind fun t181 => (if t181 = true then (if x7 > 0 then (if 0 ≤ (wrap64 (x7 - 1)) then (if (wrap64 (x7 - 1)) < (x0.length : Int) then (if ((rd_T30 x5 x7).f0) ≤ ((rd_T30 x0 (wrap64 (x7 - 1))).f0) then (some false) else (impl_IsValidReadings.l0 k x0 x5 x6 (wrap64 (x7 + 1)))) else (none)) else (none)) else (impl_IsValidReadings.l0 k x0 x5 x6 (wrap64 (x7 + 1)))) else (some false))) else (some false))) else (none)) else (none)) else (some (decide ((x0.length : Int) ≤ 20)))
def impl_IsValidReadings.f (k : Nat) (l0 : List (S30)) : Option (Bool) := impl_IsValidReadings.l0 k l0 l0 (l0.length : Int) 0
theorem impl_IsValidReadings.mono_l : ∀ k, (∀ y0 y1 y2 y3, LeO (impl_IsValidReadings.l0 k y0 y1 y2 y3) (impl_IsValidReadings.l0 (k + 1) y0 y1 y2 y3))
  | 0 => fun _ _ _ _ r h => by simp [impl_IsValidReadings.l0] at h
  | k + 1 => by
    have ih0 := impl_IsValidReadings.mono_l k
    · intro y0 y1 y2 y3
      unfold impl_IsValidReadings.l0
      repeat' first
      | (with_reducible exact ih0 _ _ _ _)
      | (with_reducible exact LeO.refl _)
      | (with_reducible exact LeO.none _)
      | (with_reducible refine LeO.ite ?_ ?_)
      | (with_reducible refine LeO.bind ?_ (fun _ => ?_))
      | exact ih0 _ _ _ _
      | exact LeO.none _
      | refine LeO.ite ?_ ?_
      | refine LeO.bind ?_ (fun _ => ?_)
theorem impl_IsValidReadings.mono : ∀ a0 k, LeO (impl_IsValidReadings.f k a0) (impl_IsValidReadings.f (k + 1) a0) := by
  intro a0 k
  have ih0 := impl_IsValidReadings.mono_l k
  unfold impl_IsValidReadings.f
  repeat' first
      | (with_reducible exact ih0 _ _ _ _)
      | (with_reducible exact LeO.refl _)
      | (with_reducible exact LeO.none _)
      | (with_reducible refine LeO.ite ?_ ?_)
      | (with_reducible refine LeO.bind ?_ (fun _ => ?_))
      | exact ih0 _ _ _ _
      | exact LeO.none _
      | refine LeO.ite ?_ ?_
      | refine LeO.bind ?_ (fun _ => ?_)
set_option maxHeartbeats 8000000 in
set_option maxRecDepth 100000 in
theorem impl_IsValidReadings.calls (k : Nat) (A0 : Option Addr) (c0 : Nat) (l0 : List (S30)) (r : Bool) (w : World) (hr0 : Kd.C k30 w A0 l0.length l0) (hc0 : l0.length ≤ c0) (h : impl_IsValidReadings.f k l0 = some r) :
    Calls Try.prog 13 #[.slice A0 l0.length c0] w fun e w' => e = .returned (.bool r) ∧ Below w.heap.size w w' := by
  have hu30 := Try.underlying30
  have HR0 := Aside0.mk hr0
  have HC0 := Aside0.mk hc0
  clear hr0 hc0
  have HB := Aside0.mk (Below.refl w.heap.size w)
  have H : (impl_IsValidReadings.l0 k l0 l0 (l0.length : Int) 0) = some r := h
  clear h
  have H' := Aside0.mk H
  clear H
  go_enter Try.func13, Try.ntmps13
  go_wp2
  repeat (go_quiet (fail); try go_wp2)
  go_loopg [7] k (fun kq v7 w' => ∃ (x7_1 : Int), v7 = .int .i64 x7_1 ∧ Aside0 (impl_IsValidReadings.l0 kq l0 l0 (l0.length : Int) x7_1 = some r) ∧ Aside0 (kq ≤ k) ∧ Aside0 (Below w.heap.size w w'))
  case atStart => exact ⟨(0), (by rfl), H', ⟨Nat.le_refl _⟩, ⟨by exact HB.out⟩⟩
  case round =>
    clear H'
    try clear c1
    obtain ⟨x7_1, rfl, HA, HK1, HB⟩ := hrel
    cases gk with
    | zero => exact absurd HA.out (by simp [impl_IsValidReadings.l0])
    | succ k1 =>
      have H := HA.out
      clear HA
      simp only [impl_IsValidReadings.l0] at H
      by_cases c2 : x7_1 < (l0.length : Int)
      · rw [if_pos c2] at H
        have c2b0 : decide (x7_1 < (l0.length : Int)) = true := decide_eq_true c2
        clear c2
        by_cases c3 : 0 ≤ x7_1
        · rw [if_pos c3] at H
          have c3b0 : decide (0 ≤ x7_1) = true := decide_eq_true c3
          clear c3
          by_cases c4 : x7_1 < (l0.length : Int)
          · rw [if_pos c4] at H
            have c4b0 : decide (x7_1 < (l0.length : Int)) = true := decide_eq_true c4
            clear c4
            replace H := Option.bind_eq_some_iff.mp H
            obtain ⟨t180, A50, H⟩ := H
            replace H : (if t180 = true then ((impl_within.f ((rd_T30 l0 x7_1).f1) (-400) 400).bind fun t181 => (if t181 = true then (if x7_1 > 0 then (if 0 ≤ (wrap64 (x7_1 - 1)) then (if (wrap64 (x7_1 - 1)) < (l0.length : Int) then (if ((rd_T30 l0 x7_1).f0) ≤ ((rd_T30 l0 (wrap64 (x7_1 - 1))).f0) then (some false) else (impl_IsValidReadings.l0 k1 l0 l0 (l0.length : Int) (wrap64 (x7_1 + 1)))) else (none)) else (none)) else (impl_IsValidReadings.l0 k1 l0 l0 (l0.length : Int) (wrap64 (x7_1 + 1)))) else (some false))) else (some false)) = some r := H
            have A5 := Aside0.mk A50
            clear A50
            by_cases c6 : t180 = true
            · subst c6
              have H1 : ((impl_within.f ((rd_T30 l0 x7_1).f1) (-400) 400).bind fun t181 => (if t181 = true then (if x7_1 > 0 then (if 0 ≤ (wrap64 (x7_1 - 1)) then (if (wrap64 (x7_1 - 1)) < (l0.length : Int) then (if ((rd_T30 l0 x7_1).f0) ≤ ((rd_T30 l0 (wrap64 (x7_1 - 1))).f0) then (some false) else (impl_IsValidReadings.l0 k1 l0 l0 (l0.length : Int) (wrap64 (x7_1 + 1)))) else (none)) else (none)) else (impl_IsValidReadings.l0 k1 l0 l0 (l0.length : Int) (wrap64 (x7_1 + 1)))) else (some false))) = some r := by rw [if_pos rfl] at H; exact H
              clear H
              have H := H1
              clear H1
              replace H := Option.bind_eq_some_iff.mp H
              obtain ⟨t181, A70, H⟩ := H
              replace H : (if t181 = true then (if x7_1 > 0 then (if 0 ≤ (wrap64 (x7_1 - 1)) then (if (wrap64 (x7_1 - 1)) < (l0.length : Int) then (if ((rd_T30 l0 x7_1).f0) ≤ ((rd_T30 l0 (wrap64 (x7_1 - 1))).f0) then (some false) else (impl_IsValidReadings.l0 k1 l0 l0 (l0.length : Int) (wrap64 (x7_1 + 1)))) else (none)) else (none)) else (impl_IsValidReadings.l0 k1 l0 l0 (l0.length : Int) (wrap64 (x7_1 + 1)))) else (some false)) = some r := H
              have A7 := Aside0.mk A70
              clear A70
              by_cases c8 : t181 = true
              · subst c8
                have H1 : (if x7_1 > 0 then (if 0 ≤ (wrap64 (x7_1 - 1)) then (if (wrap64 (x7_1 - 1)) < (l0.length : Int) then (if ((rd_T30 l0 x7_1).f0) ≤ ((rd_T30 l0 (wrap64 (x7_1 - 1))).f0) then (some false) else (impl_IsValidReadings.l0 k1 l0 l0 (l0.length : Int) (wrap64 (x7_1 + 1)))) else (none)) else (none)) else (impl_IsValidReadings.l0 k1 l0 l0 (l0.length : Int) (wrap64 (x7_1 + 1)))) = some r := by rw [if_pos rfl] at H; exact H
                clear H
                have H := H1
                clear H1
                by_cases c9 : x7_1 > 0
                · rw [if_pos c9] at H
                  have c9b0 : decide (0 < x7_1) = true := decide_eq_true c9
                  clear c9
                  obtain ⟨ji10, hji10⟩ : ∃ j_ : Int, (wrap64 (x7_1 - 1)) = j_ := ⟨_, rfl⟩
                  replace H : (if 0 ≤ (ji10) then (if (ji10) < (l0.length : Int) then (if ((rd_T30 l0 x7_1).f0) ≤ ((rd_T30 l0 (ji10)).f0) then (some false) else (impl_IsValidReadings.l0 k1 l0 l0 (l0.length : Int) (wrap64 (x7_1 + 1)))) else (none)) else (none)) = some r := by (rw [hji10] at H; exact H)
                  (skip)
                  (skip)
                  have hji10w : (IntKind.i64.wrap (x7_1 - 1)) = ji10 := (i64_w _).trans hji10
                  by_cases c11 : 0 ≤ (ji10)
                  · rw [if_pos c11] at H
                    have c11b0 : decide (0 ≤ (ji10)) = true := decide_eq_true c11
                    clear c11
                    by_cases c12 : (ji10) < (l0.length : Int)
                    · rw [if_pos c12] at H
                      have c12b0 : decide ((ji10) < (l0.length : Int)) = true := decide_eq_true c12
                      clear c12
                      by_cases c13 : ((rd_T30 l0 x7_1).f0) ≤ ((rd_T30 l0 (ji10)).f0)
                      · rw [if_pos c13] at H
                        have c13b0 : decide (((rd_T30 l0 x7_1).f0) ≤ ((rd_T30 l0 (ji10)).f0)) = true := decide_eq_true c13
                        clear c13
                        obtain rfl := Option.some.inj H
                        have p178 : 0 ≤ (x7_1 : Int) := of_decide_eq_true (by (with_reducible assumption))
                        have q178 : x7_1 < (l0.length : Int) := of_decide_eq_true (by (with_reducible assumption))
                        obtain ⟨ad178, e178, hx178_0, hx178_1, hx178_2⟩ := at_T30 HR0.out x7_1 p178 q178
                        cases e178
                        replace hx178_0 := (HB.out.cell (World.block_lt_of_cell? w _ hx178_0)).trans hx178_0
                        replace hx178_1 := (HB.out.cell (World.block_lt_of_cell? w _ hx178_1)).trans hx178_1
                        replace hx178_2 := (HB.out.cell (World.block_lt_of_cell? w _ hx178_2)).trans hx178_2
                        replace p178 := eq_true p178
                        replace q178 := eq_true q178
                        go_wp2_with (((with_reducible refine gate_dst (N := 4) rfl ?_); refine box_event ?hg (N := 4) ?hd (cs := #[.int .i64 0, .int .i64 0, .bool false]) (t := 30) ?hr ?_; (case hd => rfl); (case hg => rfl); (case hr => (go_simp; done)); intro gb179 hg w14 hbox hb; have n0_ := Aside0.mk (below_step (by exact HB.out) hb); have n1_ := Aside0.mk (hbox); have n2_ := Aside0.mk ((by rw [hg]; exact (below_size (by exact HB.out)) : w.heap.size ≤ gb179)); have n3_ := Aside0.mk ((by rw [hg]; exact (below_size (by exact HB.out)) : w.heap.size ≤ gb179)); clear HB; have HB := n0_; have BK179 := n1_; have GW179 := n2_; have GE179 := n3_; clear n0_ n1_ n2_ n3_; clear hb hbox hg; have hcz15_0 : w14.cell? ⟨gb179, 0, none⟩ = some (.int .i64 0) := (blk_cell BK179.out 0).trans rfl; have hcz15_1 : w14.cell? ⟨gb179, 1, none⟩ = some (.int .i64 0) := (blk_cell BK179.out 1).trans rfl; have hcz15_2 : w14.cell? ⟨gb179, 2, none⟩ = some (.bool false) := (blk_cell BK179.out 2).trans rfl; have hfz15_0 := blk_frozen BK179.out 0; have hfz15_1 := blk_frozen BK179.out 1; have hfz15_2 := blk_frozen BK179.out 2))
                        repeat (go_quiet (first | (go_at_call 18; (with_reducible refine (impl_within.calls ((rd_T30 l0 x7_1).f0) 0 240 true _ A5.out).mono ?_); rintro e w' ⟨rfl, ⟨nd, rfl⟩⟩; (try first | exact ⟨rfl, _, World.drewN_drewN _ _ _⟩ | exact ⟨rfl, _, Eq.trans (World.drewN_drewN _ _ _) (congrArg (World.drewN _) (Nat.add_assoc _ _ _))⟩)) | (go_at_call 18; (with_reducible refine (impl_within.calls ((rd_T30 l0 x7_1).f1) (-400) 400 true _ A7.out).mono ?_); rintro e w' ⟨rfl, ⟨nd, rfl⟩⟩; (try first | exact ⟨rfl, _, World.drewN_drewN _ _ _⟩ | exact ⟨rfl, _, Eq.trans (World.drewN_drewN _ _ _) (congrArg (World.drewN _) (Nat.add_assoc _ _ _))⟩); have p182 : 0 ≤ ((ji10) : Int) := of_decide_eq_true (by (with_reducible assumption)); have q182 : (ji10) < (l0.length : Int) := of_decide_eq_true (by (with_reducible assumption)); obtain ⟨ad182, e182, hx182_0, hx182_1, hx182_2⟩ := at_T30 HR0.out (ji10) p182 q182; obtain rfl : ad178 = ad182 := (by injection e182); have hn182_0 : ad178.block ≠ gb179 := Nat.ne_of_lt (Nat.lt_of_lt_of_le (by have := World.block_lt_of_cell? _ _ hx182_0; rwa [add_block] at this) GW179.out); have hn182_1 : ad178.block ≠ gb179 := Nat.ne_of_lt (Nat.lt_of_lt_of_le (by have := World.block_lt_of_cell? _ _ hx182_0; rwa [add_block] at this) GW179.out); have hn182_2 : ad178.block ≠ gb179 := Nat.ne_of_lt (Nat.lt_of_lt_of_le (by have := World.block_lt_of_cell? _ _ hx182_0; rwa [add_block] at this) GW179.out); replace hx182_0 := (HB.out.cell (World.block_lt_of_cell? w _ hx182_0)).trans hx182_0; replace hx182_1 := (HB.out.cell (World.block_lt_of_cell? w _ hx182_1)).trans hx182_1; replace hx182_2 := (HB.out.cell (World.block_lt_of_cell? w _ hx182_2)).trans hx182_2; replace hx182_0 := (cell_far (p := ⟨gb179, 0, none⟩) (by (rw [add_block]; exact hn182_0)) (.int .i64 ((rd_T30 l0 x7_1).f0))).trans hx182_0; replace hx182_1 := (cell_far (p := ⟨gb179, 0, none⟩) (by (rw [add_block]; exact hn182_0)) (.int .i64 ((rd_T30 l0 x7_1).f0))).trans hx182_1; replace hx182_2 := (cell_far (p := ⟨gb179, 0, none⟩) (by (rw [add_block]; exact hn182_0)) (.int .i64 ((rd_T30 l0 x7_1).f0))).trans hx182_2; replace hx182_0 := (cell_far (p := ⟨gb179, 1, none⟩) (by (rw [add_block]; exact hn182_1)) (.int .i64 ((rd_T30 l0 x7_1).f1))).trans hx182_0; replace hx182_1 := (cell_far (p := ⟨gb179, 1, none⟩) (by (rw [add_block]; exact hn182_1)) (.int .i64 ((rd_T30 l0 x7_1).f1))).trans hx182_1; replace hx182_2 := (cell_far (p := ⟨gb179, 1, none⟩) (by (rw [add_block]; exact hn182_1)) (.int .i64 ((rd_T30 l0 x7_1).f1))).trans hx182_2; replace hx182_0 := (cell_far (p := ⟨gb179, 2, none⟩) (by (rw [add_block]; exact hn182_2)) (.bool ((rd_T30 l0 x7_1).f2))).trans hx182_0; replace hx182_1 := (cell_far (p := ⟨gb179, 2, none⟩) (by (rw [add_block]; exact hn182_2)) (.bool ((rd_T30 l0 x7_1).f2))).trans hx182_1; replace hx182_2 := (cell_far (p := ⟨gb179, 2, none⟩) (by (rw [add_block]; exact hn182_2)) (.bool ((rd_T30 l0 x7_1).f2))).trans hx182_2; (try have hy182_0 := fun (n_ : Nat) => (show (((((w14.drewN n_).setCell ⟨gb179, 0, none⟩ (.int .i64 ((rd_T30 l0 x7_1).f0))).setCell ⟨gb179, 1, none⟩ (.int .i64 ((rd_T30 l0 x7_1).f1))).setCell ⟨gb179, 2, none⟩ (.bool ((rd_T30 l0 x7_1).f2)))).cell? _ = some _ from hx182_0)); (try have hy182_1 := fun (n_ : Nat) => (show (((((w14.drewN n_).setCell ⟨gb179, 0, none⟩ (.int .i64 ((rd_T30 l0 x7_1).f0))).setCell ⟨gb179, 1, none⟩ (.int .i64 ((rd_T30 l0 x7_1).f1))).setCell ⟨gb179, 2, none⟩ (.bool ((rd_T30 l0 x7_1).f2)))).cell? _ = some _ from hx182_1)); (try have hy182_2 := fun (n_ : Nat) => (show (((((w14.drewN n_).setCell ⟨gb179, 0, none⟩ (.int .i64 ((rd_T30 l0 x7_1).f0))).setCell ⟨gb179, 1, none⟩ (.int .i64 ((rd_T30 l0 x7_1).f1))).setCell ⟨gb179, 2, none⟩ (.bool ((rd_T30 l0 x7_1).f2)))).cell? _ = some _ from hx182_2)); clear hn182_0; clear hn182_1; clear hn182_2; replace p182 := eq_true p182; replace q182 := eq_true q182)); try go_wp2_with (fail))
                        go_ret
                        exact ⟨by rfl, by repeat ((with_reducible first | exact HB.out | apply pw_below_drewN | refine below_set ?_ GE179.out))⟩
                      · rw [if_neg c13] at H
                        have c13b0 : decide (((rd_T30 l0 x7_1).f0) ≤ ((rd_T30 l0 (ji10)).f0)) = false := decide_eq_false c13
                        clear c13
                        have H' := Aside0.mk H
                        clear H
                        have p178 : 0 ≤ (x7_1 : Int) := of_decide_eq_true (by (with_reducible assumption))
                        have q178 : x7_1 < (l0.length : Int) := of_decide_eq_true (by (with_reducible assumption))
                        obtain ⟨ad178, e178, hx178_0, hx178_1, hx178_2⟩ := at_T30 HR0.out x7_1 p178 q178
                        cases e178
                        replace hx178_0 := (HB.out.cell (World.block_lt_of_cell? w _ hx178_0)).trans hx178_0
                        replace hx178_1 := (HB.out.cell (World.block_lt_of_cell? w _ hx178_1)).trans hx178_1
                        replace hx178_2 := (HB.out.cell (World.block_lt_of_cell? w _ hx178_2)).trans hx178_2
                        replace p178 := eq_true p178
                        replace q178 := eq_true q178
                        go_wp2_with (((with_reducible refine gate_dst (N := 4) rfl ?_); refine box_event ?hg (N := 4) ?hd (cs := #[.int .i64 0, .int .i64 0, .bool false]) (t := 30) ?hr ?_; (case hd => rfl); (case hg => rfl); (case hr => (go_simp; done)); intro gb179 hg w16 hbox hb; have n0_ := Aside0.mk (below_step (by exact HB.out) hb); have n1_ := Aside0.mk (hbox); have n2_ := Aside0.mk ((by rw [hg]; exact (below_size (by exact HB.out)) : w.heap.size ≤ gb179)); have n3_ := Aside0.mk ((by rw [hg]; exact (below_size (by exact HB.out)) : w.heap.size ≤ gb179)); clear HB; have HB := n0_; have BK179 := n1_; have GW179 := n2_; have GE179 := n3_; clear n0_ n1_ n2_ n3_; clear hb hbox hg; have hcz17_0 : w16.cell? ⟨gb179, 0, none⟩ = some (.int .i64 0) := (blk_cell BK179.out 0).trans rfl; have hcz17_1 : w16.cell? ⟨gb179, 1, none⟩ = some (.int .i64 0) := (blk_cell BK179.out 1).trans rfl; have hcz17_2 : w16.cell? ⟨gb179, 2, none⟩ = some (.bool false) := (blk_cell BK179.out 2).trans rfl; have hfz17_0 := blk_frozen BK179.out 0; have hfz17_1 := blk_frozen BK179.out 1; have hfz17_2 := blk_frozen BK179.out 2))
                        repeat (go_quiet (first | (go_at_call 18; (with_reducible refine (impl_within.calls ((rd_T30 l0 x7_1).f0) 0 240 true _ A5.out).mono ?_); rintro e w' ⟨rfl, ⟨nd, rfl⟩⟩; (try first | exact ⟨rfl, _, World.drewN_drewN _ _ _⟩ | exact ⟨rfl, _, Eq.trans (World.drewN_drewN _ _ _) (congrArg (World.drewN _) (Nat.add_assoc _ _ _))⟩)) | (go_at_call 18; (with_reducible refine (impl_within.calls ((rd_T30 l0 x7_1).f1) (-400) 400 true _ A7.out).mono ?_); rintro e w' ⟨rfl, ⟨nd, rfl⟩⟩; (try first | exact ⟨rfl, _, World.drewN_drewN _ _ _⟩ | exact ⟨rfl, _, Eq.trans (World.drewN_drewN _ _ _) (congrArg (World.drewN _) (Nat.add_assoc _ _ _))⟩); have p182 : 0 ≤ ((ji10) : Int) := of_decide_eq_true (by (with_reducible assumption)); have q182 : (ji10) < (l0.length : Int) := of_decide_eq_true (by (with_reducible assumption)); obtain ⟨ad182, e182, hx182_0, hx182_1, hx182_2⟩ := at_T30 HR0.out (ji10) p182 q182; obtain rfl : ad178 = ad182 := (by injection e182); have hn182_0 : ad178.block ≠ gb179 := Nat.ne_of_lt (Nat.lt_of_lt_of_le (by have := World.block_lt_of_cell? _ _ hx182_0; rwa [add_block] at this) GW179.out); have hn182_1 : ad178.block ≠ gb179 := Nat.ne_of_lt (Nat.lt_of_lt_of_le (by have := World.block_lt_of_cell? _ _ hx182_0; rwa [add_block] at this) GW179.out); have hn182_2 : ad178.block ≠ gb179 := Nat.ne_of_lt (Nat.lt_of_lt_of_le (by have := World.block_lt_of_cell? _ _ hx182_0; rwa [add_block] at this) GW179.out); replace hx182_0 := (HB.out.cell (World.block_lt_of_cell? w _ hx182_0)).trans hx182_0; replace hx182_1 := (HB.out.cell (World.block_lt_of_cell? w _ hx182_1)).trans hx182_1; replace hx182_2 := (HB.out.cell (World.block_lt_of_cell? w _ hx182_2)).trans hx182_2; replace hx182_0 := (cell_far (p := ⟨gb179, 0, none⟩) (by (rw [add_block]; exact hn182_0)) (.int .i64 ((rd_T30 l0 x7_1).f0))).trans hx182_0; replace hx182_1 := (cell_far (p := ⟨gb179, 0, none⟩) (by (rw [add_block]; exact hn182_0)) (.int .i64 ((rd_T30 l0 x7_1).f0))).trans hx182_1; replace hx182_2 := (cell_far (p := ⟨gb179, 0, none⟩) (by (rw [add_block]; exact hn182_0)) (.int .i64 ((rd_T30 l0 x7_1).f0))).trans hx182_2; replace hx182_0 := (cell_far (p := ⟨gb179, 1, none⟩) (by (rw [add_block]; exact hn182_1)) (.int .i64 ((rd_T30 l0 x7_1).f1))).trans hx182_0; replace hx182_1 := (cell_far (p := ⟨gb179, 1, none⟩) (by (rw [add_block]; exact hn182_1)) (.int .i64 ((rd_T30 l0 x7_1).f1))).trans hx182_1; replace hx182_2 := (cell_far (p := ⟨gb179, 1, none⟩) (by (rw [add_block]; exact hn182_1)) (.int .i64 ((rd_T30 l0 x7_1).f1))).trans hx182_2; replace hx182_0 := (cell_far (p := ⟨gb179, 2, none⟩) (by (rw [add_block]; exact hn182_2)) (.bool ((rd_T30 l0 x7_1).f2))).trans hx182_0; replace hx182_1 := (cell_far (p := ⟨gb179, 2, none⟩) (by (rw [add_block]; exact hn182_2)) (.bool ((rd_T30 l0 x7_1).f2))).trans hx182_1; replace hx182_2 := (cell_far (p := ⟨gb179, 2, none⟩) (by (rw [add_block]; exact hn182_2)) (.bool ((rd_T30 l0 x7_1).f2))).trans hx182_2; (try have hy182_0 := fun (n_ : Nat) => (show (((((w16.drewN n_).setCell ⟨gb179, 0, none⟩ (.int .i64 ((rd_T30 l0 x7_1).f0))).setCell ⟨gb179, 1, none⟩ (.int .i64 ((rd_T30 l0 x7_1).f1))).setCell ⟨gb179, 2, none⟩ (.bool ((rd_T30 l0 x7_1).f2)))).cell? _ = some _ from hx182_0)); (try have hy182_1 := fun (n_ : Nat) => (show (((((w16.drewN n_).setCell ⟨gb179, 0, none⟩ (.int .i64 ((rd_T30 l0 x7_1).f0))).setCell ⟨gb179, 1, none⟩ (.int .i64 ((rd_T30 l0 x7_1).f1))).setCell ⟨gb179, 2, none⟩ (.bool ((rd_T30 l0 x7_1).f2)))).cell? _ = some _ from hx182_1)); (try have hy182_2 := fun (n_ : Nat) => (show (((((w16.drewN n_).setCell ⟨gb179, 0, none⟩ (.int .i64 ((rd_T30 l0 x7_1).f0))).setCell ⟨gb179, 1, none⟩ (.int .i64 ((rd_T30 l0 x7_1).f1))).setCell ⟨gb179, 2, none⟩ (.bool ((rd_T30 l0 x7_1).f2)))).cell? _ = some _ from hx182_2)); clear hn182_0; clear hn182_1; clear hn182_2; replace p182 := eq_true p182; replace q182 := eq_true q182)); try go_wp2_with (fail))
                        go_roundg k1
                        case measure => have := HK1.out; omega
                        case rel => exact ⟨(wrap64 (x7_1 + 1)), (by rfl), H', ⟨by have := HK1.out; omega⟩, ⟨by repeat ((with_reducible first | exact HB.out | apply pw_below_drewN | refine below_set ?_ GE179.out))⟩⟩
                    · rw [if_neg c12] at H
                      exact absurd H (by simp)
                  · rw [if_neg c11] at H
                    exact absurd H (by simp)
                · rw [if_neg c9] at H
                  have c9b0 : decide (0 < x7_1) = false := decide_eq_false c9
                  clear c9
                  have H' := Aside0.mk H
                  clear H
                  have p178 : 0 ≤ (x7_1 : Int) := of_decide_eq_true (by (with_reducible assumption))
                  have q178 : x7_1 < (l0.length : Int) := of_decide_eq_true (by (with_reducible assumption))
                  obtain ⟨ad178, e178, hx178_0, hx178_1, hx178_2⟩ := at_T30 HR0.out x7_1 p178 q178
                  cases e178
                  replace hx178_0 := (HB.out.cell (World.block_lt_of_cell? w _ hx178_0)).trans hx178_0
                  replace hx178_1 := (HB.out.cell (World.block_lt_of_cell? w _ hx178_1)).trans hx178_1
                  replace hx178_2 := (HB.out.cell (World.block_lt_of_cell? w _ hx178_2)).trans hx178_2
                  replace p178 := eq_true p178
                  replace q178 := eq_true q178
                  go_wp2_with (((with_reducible refine gate_dst (N := 4) rfl ?_); refine box_event ?hg (N := 4) ?hd (cs := #[.int .i64 0, .int .i64 0, .bool false]) (t := 30) ?hr ?_; (case hd => rfl); (case hg => rfl); (case hr => (go_simp; done)); intro gb179 hg w18 hbox hb; have n0_ := Aside0.mk (below_step (by exact HB.out) hb); have n1_ := Aside0.mk (hbox); have n2_ := Aside0.mk ((by rw [hg]; exact (below_size (by exact HB.out)) : w.heap.size ≤ gb179)); have n3_ := Aside0.mk ((by rw [hg]; exact (below_size (by exact HB.out)) : w.heap.size ≤ gb179)); clear HB; have HB := n0_; have BK179 := n1_; have GW179 := n2_; have GE179 := n3_; clear n0_ n1_ n2_ n3_; clear hb hbox hg; have hcz19_0 : w18.cell? ⟨gb179, 0, none⟩ = some (.int .i64 0) := (blk_cell BK179.out 0).trans rfl; have hcz19_1 : w18.cell? ⟨gb179, 1, none⟩ = some (.int .i64 0) := (blk_cell BK179.out 1).trans rfl; have hcz19_2 : w18.cell? ⟨gb179, 2, none⟩ = some (.bool false) := (blk_cell BK179.out 2).trans rfl; have hfz19_0 := blk_frozen BK179.out 0; have hfz19_1 := blk_frozen BK179.out 1; have hfz19_2 := blk_frozen BK179.out 2))
                  repeat (go_quiet (first | (go_at_call 18; (with_reducible refine (impl_within.calls ((rd_T30 l0 x7_1).f0) 0 240 true _ A5.out).mono ?_); rintro e w' ⟨rfl, ⟨nd, rfl⟩⟩; (try first | exact ⟨rfl, _, World.drewN_drewN _ _ _⟩ | exact ⟨rfl, _, Eq.trans (World.drewN_drewN _ _ _) (congrArg (World.drewN _) (Nat.add_assoc _ _ _))⟩)) | (go_at_call 18; (with_reducible refine (impl_within.calls ((rd_T30 l0 x7_1).f1) (-400) 400 true _ A7.out).mono ?_); rintro e w' ⟨rfl, ⟨nd, rfl⟩⟩; (try first | exact ⟨rfl, _, World.drewN_drewN _ _ _⟩ | exact ⟨rfl, _, Eq.trans (World.drewN_drewN _ _ _) (congrArg (World.drewN _) (Nat.add_assoc _ _ _))⟩))); try go_wp2_with (fail))
                  go_roundg k1
                  case measure => have := HK1.out; omega
                  case rel => exact ⟨(wrap64 (x7_1 + 1)), (by rfl), H', ⟨by have := HK1.out; omega⟩, ⟨by repeat ((with_reducible first | exact HB.out | apply pw_below_drewN | refine below_set ?_ GE179.out))⟩⟩
              · replace c8 := Bool.eq_false_iff.mpr c8
                subst c8
                have H1 : (some false) = some r := by rw [if_neg (show ¬ (false = true) by decide)] at H; exact H
                clear H
                have H := H1
                clear H1
                obtain rfl := Option.some.inj H
                have p178 : 0 ≤ (x7_1 : Int) := of_decide_eq_true (by (with_reducible assumption))
                have q178 : x7_1 < (l0.length : Int) := of_decide_eq_true (by (with_reducible assumption))
                obtain ⟨ad178, e178, hx178_0, hx178_1, hx178_2⟩ := at_T30 HR0.out x7_1 p178 q178
                cases e178
                replace hx178_0 := (HB.out.cell (World.block_lt_of_cell? w _ hx178_0)).trans hx178_0
                replace hx178_1 := (HB.out.cell (World.block_lt_of_cell? w _ hx178_1)).trans hx178_1
                replace hx178_2 := (HB.out.cell (World.block_lt_of_cell? w _ hx178_2)).trans hx178_2
                replace p178 := eq_true p178
                replace q178 := eq_true q178
                go_wp2_with (((with_reducible refine gate_dst (N := 4) rfl ?_); refine box_event ?hg (N := 4) ?hd (cs := #[.int .i64 0, .int .i64 0, .bool false]) (t := 30) ?hr ?_; (case hd => rfl); (case hg => rfl); (case hr => (go_simp; done)); intro gb179 hg w20 hbox hb; have n0_ := Aside0.mk (below_step (by exact HB.out) hb); have n1_ := Aside0.mk (hbox); have n2_ := Aside0.mk ((by rw [hg]; exact (below_size (by exact HB.out)) : w.heap.size ≤ gb179)); have n3_ := Aside0.mk ((by rw [hg]; exact (below_size (by exact HB.out)) : w.heap.size ≤ gb179)); clear HB; have HB := n0_; have BK179 := n1_; have GW179 := n2_; have GE179 := n3_; clear n0_ n1_ n2_ n3_; clear hb hbox hg; have hcz21_0 : w20.cell? ⟨gb179, 0, none⟩ = some (.int .i64 0) := (blk_cell BK179.out 0).trans rfl; have hcz21_1 : w20.cell? ⟨gb179, 1, none⟩ = some (.int .i64 0) := (blk_cell BK179.out 1).trans rfl; have hcz21_2 : w20.cell? ⟨gb179, 2, none⟩ = some (.bool false) := (blk_cell BK179.out 2).trans rfl; have hfz21_0 := blk_frozen BK179.out 0; have hfz21_1 := blk_frozen BK179.out 1; have hfz21_2 := blk_frozen BK179.out 2))
                repeat (go_quiet (first | (go_at_call 18; (with_reducible refine (impl_within.calls ((rd_T30 l0 x7_1).f0) 0 240 true _ A5.out).mono ?_); rintro e w' ⟨rfl, ⟨nd, rfl⟩⟩; (try first | exact ⟨rfl, _, World.drewN_drewN _ _ _⟩ | exact ⟨rfl, _, Eq.trans (World.drewN_drewN _ _ _) (congrArg (World.drewN _) (Nat.add_assoc _ _ _))⟩)) | (go_at_call 18; (with_reducible refine (impl_within.calls ((rd_T30 l0 x7_1).f1) (-400) 400 false _ A7.out).mono ?_); rintro e w' ⟨rfl, ⟨nd, rfl⟩⟩; (try first | exact ⟨rfl, _, World.drewN_drewN _ _ _⟩ | exact ⟨rfl, _, Eq.trans (World.drewN_drewN _ _ _) (congrArg (World.drewN _) (Nat.add_assoc _ _ _))⟩))); try go_wp2_with (fail))
                go_ret
                exact ⟨by rfl, by repeat ((with_reducible first | exact HB.out | apply pw_below_drewN | refine below_set ?_ GE179.out))⟩
            · replace c6 := Bool.eq_false_iff.mpr c6
              subst c6
              have H1 : (some false) = some r := by rw [if_neg (show ¬ (false = true) by decide)] at H; exact H
              clear H
              have H := H1
              clear H1
              obtain rfl := Option.some.inj H
              have p178 : 0 ≤ (x7_1 : Int) := of_decide_eq_true (by (with_reducible assumption))
              have q178 : x7_1 < (l0.length : Int) := of_decide_eq_true (by (with_reducible assumption))
              obtain ⟨ad178, e178, hx178_0, hx178_1, hx178_2⟩ := at_T30 HR0.out x7_1 p178 q178
              cases e178
              replace hx178_0 := (HB.out.cell (World.block_lt_of_cell? w _ hx178_0)).trans hx178_0
              replace hx178_1 := (HB.out.cell (World.block_lt_of_cell? w _ hx178_1)).trans hx178_1
              replace hx178_2 := (HB.out.cell (World.block_lt_of_cell? w _ hx178_2)).trans hx178_2
              replace p178 := eq_true p178
              replace q178 := eq_true q178
              go_wp2_with (((with_reducible refine gate_dst (N := 4) rfl ?_); refine box_event ?hg (N := 4) ?hd (cs := #[.int .i64 0, .int .i64 0, .bool false]) (t := 30) ?hr ?_; (case hd => rfl); (case hg => rfl); (case hr => (go_simp; done)); intro gb179 hg w22 hbox hb; have n0_ := Aside0.mk (below_step (by exact HB.out) hb); have n1_ := Aside0.mk (hbox); have n2_ := Aside0.mk ((by rw [hg]; exact (below_size (by exact HB.out)) : w.heap.size ≤ gb179)); have n3_ := Aside0.mk ((by rw [hg]; exact (below_size (by exact HB.out)) : w.heap.size ≤ gb179)); clear HB; have HB := n0_; have BK179 := n1_; have GW179 := n2_; have GE179 := n3_; clear n0_ n1_ n2_ n3_; clear hb hbox hg; have hcz23_0 : w22.cell? ⟨gb179, 0, none⟩ = some (.int .i64 0) := (blk_cell BK179.out 0).trans rfl; have hcz23_1 : w22.cell? ⟨gb179, 1, none⟩ = some (.int .i64 0) := (blk_cell BK179.out 1).trans rfl; have hcz23_2 : w22.cell? ⟨gb179, 2, none⟩ = some (.bool false) := (blk_cell BK179.out 2).trans rfl; have hfz23_0 := blk_frozen BK179.out 0; have hfz23_1 := blk_frozen BK179.out 1; have hfz23_2 := blk_frozen BK179.out 2))
              repeat (go_quiet ((go_at_call 18; (with_reducible refine (impl_within.calls ((rd_T30 l0 x7_1).f0) 0 240 false _ A5.out).mono ?_); rintro e w' ⟨rfl, ⟨nd, rfl⟩⟩; (try first | exact ⟨rfl, _, World.drewN_drewN _ _ _⟩ | exact ⟨rfl, _, Eq.trans (World.drewN_drewN _ _ _) (congrArg (World.drewN _) (Nat.add_assoc _ _ _))⟩))); try go_wp2_with (fail))
              go_ret
              exact ⟨by rfl, by repeat ((with_reducible first | exact HB.out | apply pw_below_drewN | refine below_set ?_ GE179.out))⟩
          · rw [if_neg c4] at H
            exact absurd H (by simp)
        · rw [if_neg c3] at H
          exact absurd H (by simp)
      · rw [if_neg c2] at H
        have c2b0 : decide (x7_1 < (l0.length : Int)) = false := decide_eq_false c2
        clear c2
        obtain rfl := Option.some.inj H
        go_wp2
        repeat (go_quiet (fail); try go_wp2)
        go_ret
        exact ⟨by rfl, by exact HB.out⟩

-- NOT PRINTED: function 19 (slices_overlaps_impl_Reading)

-- NOT PRINTED: function 22 (slices_Reverse_impl_Reading)

-- NOT PRINTED: function 21 (slices_rotateLeft_impl_Reading)

-- NOT PRINTED: function 20 (slices_rotateRight_impl_Reading)

/-! ### slices_Insert_impl_Reading: function 14 -/
theorem INS_kept {w w1 : World} {S : Nat → Prop} {row : Option Nat} (h : w.grownBy w1 row) (hs : ∀ k, row = some k → S k) : Kept w w1 S :=
  Kept.of_grown h (Kept.refl w S) (fun k hk => .inl (hs k hk))
set_option maxHeartbeats 4000000 in
set_option maxRecDepth 100000 in
theorem INS_end {P0_ : Nat → Prop} {A0 : Option Addr} {c0 : Nat} {l0 : List S30} {A2 : Option Addr} {c2 : Nat} {l2 : List S30} {w0 w : World} (hB : Below w0.heap.size w0 w) (ho0 : Kd.R k30 30 w w0.heap.size P0_ (.slice A0 l0.length c0) l0)
    (hr2 : Kd.C k30 w A2 1 l2) (h1 : l2.length = 1) (hl : l0.length < 1000000000) :
    Calls Try.prog 14 #[.slice A0 l0.length c0, .int .i64 l0.length, .slice A2 1 c2] w fun e w' => ∃ v1 : Value, e = .returned v1 ∧ Kd.R k30 30 w' w0.heap.size (fun k_ => (P0_ k_ ∨ w.heap.size ≤ k_)) v1 (l0 ++ l2) ∧ Below w0.heap.size w0 w' ∧ Kept w w' (fun k_ => P0_ k_) := by
  have HO := Aside0.mk (show Kd.R k30 30 w w0.heap.size (fun k_ => (P0_ k_ ∨ w.heap.size ≤ k_)) (.slice A0 l0.length c0) l0 from Kd.R_mono ho0 (fun k_ hk => (.inl hk)))
  have HP := Aside0.mk ho0.1
  have HR := Aside0.mk hr2
  have HBB := Aside0.mk hB
  have HL := Aside0.mk hl
  have cap0 := Aside0.mk (Kd.R_reads' ho0).2.1
  clear ho0 hr2 hB hl
  have e1 : ¬ ((1 : Int) = 0) := by omega
  have q1 : (0 : Int) ≤ (l0.length : Int) := by omega
  go_enter Try.func14, Try.ntmps14
  go_wp2_with (((with_reducible refine gate_builtin (b := .append) (xs := #[.tmp 23, .tmp 24]) rfl ?_); at_builtin; refine Kd.R_append_rows k30 (w0 := w0) w0.heap.size rfl (.tmp 23) (.tmp 24) 26 30 (.agg #[(.int .i64 0), (.int .i64 0), (.bool false)]) 24 rfl Try.underlying26 info30 rfl (by decide) (by omega) (.slice A0 l0.length c0) l0 l2 A2 1 c2 (fun k_ => (P0_ k_ ∨ w.heap.size ≤ k_)) (fun _ => False) rfl rfl HO.out HR.out (fun x cs hk => by obtain rfl := k30_open hk; exact k30_mkM _ _ _ x) (fun _ hk => hk.elim) (fun k hk => .inr hk) HBB.out HBB.out.size (by have := HL.out; omega) ?_; intro v1 w1 ho hb hg hat))
  all_goals
    go_ret
    exact ⟨_, rfl, ho, hb, INS_kept hg HP.out⟩
/-- 'copy' over elements of z cells into a row of memory. -/
theorem INS_copy (w : World) (dT sT ty elem : TypeId) (z : Nat) (g o dLen dCap : Nat) (a : Addr) (sLen sCap : Nat) (cur : Array Value) (t : TypeId) (cs : List Value) (hu : Try.prog.underlying dT = some (.slice elem)) (hs : (Try.prog.info? elem).map (·.size) = some z)
    (hg : w.heap[g]? = some (.cells cur t (0, 0))) (hn : cs.length = Nat.min sLen dLen * z) (hsrc : ∀ j v, cs[j]? = some v → w.cell? (a.add j) = some v) (hfit : o + cs.length ≤ cur.size) (h1 : ∀ v ∈ cs, v.oneCell' = true) :
    (Builtin.copy_ #[dT, sT] ty #[.slice (some ⟨g, o, none⟩) dLen dCap, .slice (some a) sLen sCap]).run Try.prog w = .ok (goInt (Nat.min sLen dLen)) (w.setRow g (cur.toList.take o ++ cs ++ cur.toList.drop (o + cs.length)).toArray) := by
  have hl := run_loadCells_list (P := Try.prog) w a cs hsrc
  have hst := run_storeCells_at Try.prog g o t cs 0 cur w hg (by simpa using hfit) h1
  rw [hn] at hl
  cases hq : Try.prog.info? elem with
  | none => simp [hq] at hs
  | some i =>
    have hi : i.size = z := by simpa [hq] using hs
    simp [Builtin.copy_, run_underlying hu, Builtin.lenOf, Builtin.firstCells, sizeOf, typeInfo, hq, hi, hl, hst]
set_option maxHeartbeats 4000000 in
set_option maxRecDepth 100000 in
theorem INS_shift {g vb n c i vc : Nat} {cur vcur : Array Value} {w : World} (hi : i < n) (hroom : n + 1 ≤ c) (hc63 : c ≤ maxLen) (hg : w.heap[g]? = some (.cells cur 30 (0, 0))) (hsz : cur.size = c * 3) (hv : w.heap[vb]? = some (.cells vcur 30 (0, 0))) (hvz : vcur.size = vc * 3) (hvc : 1 ≤ vc) (hne : vb ≠ g)
    (h1c : ∀ v ∈ cur.toList.take (n * 3), v.oneCell' = true) (h1v : ∀ v ∈ vcur.toList.take 3, v.oneCell' = true) :
    Calls Try.prog 14 #[.slice (some ⟨g, 0, none⟩) n c, .int .i64 i, .slice (some ⟨vb, 0, none⟩) 1 vc] w fun e w' => e = .returned (.slice (some ⟨g, 0, none⟩) (n + 1) c) ∧ ∃ cur2 : Array Value, cur2.size = c * 3 ∧ cur2.toList.take ((n + 1) * 3) = cur.toList.take (i * 3) ++ vcur.toList.take 3 ++ (cur.toList.take (n * 3)).drop (i * 3) ∧
      w'.heap[g]? = some (.cells cur2 30 (0, 0)) ∧ (∀ k, k ≠ g → w'.heap[k]? = w.heap[k]?) ∧ w'.heap.size = w.heap.size ∧ ∀ b, b ≤ g → Below b w w' := by
  have e1 : ¬ ((1 : Int) = 0) := by omega
  have e2 : ¬ ((i : Int) = (n : Int)) := by omega
  have q1 : (0 : Int) ≤ (i : Int) := by omega
  have q2 : (i : Int) ≤ (n : Int) := by omega
  have q3 : ¬ ((c : Int) < (n : Int) + 1) := by omega
  have w1 : IntKind.i64.wrap ((n : Int) + 1) = (n : Int) + 1 := by unfold maxLen at hc63; rw [IntKind.wrap_i64]; omega
  have w2 : IntKind.i64.wrap ((i : Int) + 1) = (i : Int) + 1 := by unfold maxLen at hc63; rw [IntKind.wrap_i64]; omega
  have q4 : (0 : Int) ≤ (n : Int) + 1 := by omega
  have q5 : (n : Int) + 1 ≤ (c : Int) := by omega
  have q6 : (0 : Int) ≤ (i : Int) + 1 := by omega
  have q7 : (i : Int) + 1 ≤ (n : Int) + 1 := by omega
  have q8 : (i : Int) ≤ (n : Int) + 1 := by omega
  have hov : ∀ lb cb, (callFunc 19 #[.slice (some ⟨vb, 0, none⟩) 1 vc, .slice (some ⟨g, (i + 1) * 3, none⟩) lb cb]).run Try.prog w = .ok (.value (.bool false)) w := fun lb cb => by
    rw [run_callFunc_extern Try.func19 (by kernel_rfl) (by kernel_rfl) (by kernel_rfl) (e := Extern.SlicesOverlaps.overlaps #[26, 26] #[4]) (by kernel_rfl),
      Lib.run_overlaps_apart w 26 4 30 Try.underlying26 3 Try.sizeOf30 ⟨vb, 0, none⟩ ⟨g, (i + 1) * 3, none⟩ 1 vc lb cb hne 30 30 (vc * 3) (c * 3) (by simp [World.shape?, hv, hvz]) (by simp [World.shape?, hg, hsz]) (by omega) (by simp [World.frozen?, hv]) (by simp [World.frozen?, hv])]
    rfl
  have hcl : ((cur.toList.take (n * 3)).drop (i * 3)).length = (n - i) * 3 := by rw [List.length_drop, List.length_take, Array.length_toList, hsz]; omega
  obtain ⟨cs, hcs⟩ : ∃ cs, cs = (cur.toList.take (n * 3)).drop (i * 3) := ⟨_, rfl⟩
  rw [← hcs] at hcl
  have hcsg : ∀ j v, cs[j]? = some v → cur[i * 3 + j]? = some v := by
    intro j v hj
    rw [hcs, List.getElem?_drop, List.getElem?_take] at hj
    split at hj
    · rw [← hj]
      exact (Array.getElem?_toList ..).symm
    · cases hj
  have hcs1 : ∀ v ∈ cs, v.oneCell' = true := fun v hv => by
    rw [hcs] at hv
    exact h1c v (List.mem_of_mem_drop hv)
  obtain ⟨C1, hC1⟩ : ∃ C1 : Array Value, C1 = (cur.toList.take ((i + 1) * 3) ++ cs ++ cur.toList.drop ((i + 1) * 3 + cs.length)).toArray := ⟨_, rfl⟩
  have hC1s : C1.size = c * 3 := by rw [hC1]; simp [hsz, hcl]; omega
  have hcp1 : ∀ ty dc sc, (Builtin.copy_ #[26, 26] ty #[.slice (some ⟨g, (i + 1) * 3, none⟩) (n - i) dc, .slice (some ⟨g, i * 3, none⟩) (n + 1 - i) sc]).run Try.prog w.drew = .ok (goInt (Nat.min (n + 1 - i) (n - i))) (w.drew.setRow g C1) := fun ty dc sc => by
    rw [hC1]
    exact INS_copy w.drew 26 26 ty 30 3 g ((i + 1) * 3) (n - i) dc ⟨g, i * 3, none⟩ (n + 1 - i) sc cur 30 cs Try.underlying26 (by rfl) hg (by rw [hcl]; simp only [Nat.min_def]; split <;> omega) (fun j v hj => by
      have := hcsg j v hj
      rw [Addr.add_lit]
      have hg' : w.drew.heap[g]? = some (.cells cur 30 (0, 0)) := hg
      simp [World.cell?, hg', this]) (by rw [hcl, hsz]; omega) hcs1
  have hC1l : C1.toList = cur.toList.take ((i + 1) * 3) ++ cs ++ cur.toList.drop ((i + 1) * 3 + cs.length) := by rw [hC1]
  obtain ⟨vs, hvs⟩ : ∃ vs, vs = vcur.toList.take 3 := ⟨_, rfl⟩
  have hvl : vs.length = 3 := by rw [hvs, List.length_take, Array.length_toList, hvz]; omega
  have hvg : ∀ (j : Nat) (v : Value), vs[j]? = some v → vcur[j]? = some v := by
    intro j v hj
    rw [hvs, List.getElem?_take] at hj
    split at hj
    · rw [← hj]
      exact (Array.getElem?_toList ..).symm
    · cases hj
  have hvs1 : ∀ v ∈ vs, v.oneCell' = true := fun v hv => by
    rw [hvs] at hv
    exact h1v v hv
  have hW1g : (w.drew.setRow g C1).heap[g]? = some (.cells C1 30 (0, 0)) := setRow_heap w.drew g cur C1 30 (0, 0) hg
  obtain ⟨C2, hC2⟩ : ∃ C2 : Array Value, C2 = (C1.toList.take (i * 3) ++ vs ++ C1.toList.drop (i * 3 + vs.length)).toArray := ⟨_, rfl⟩
  have hcp2 : ∀ ty dc sc, (Builtin.copy_ #[26, 26] ty #[.slice (some ⟨g, i * 3, none⟩) (n + 1 - i) dc, .slice (some ⟨vb, 0, none⟩) 1 sc]).run Try.prog (w.drew.setRow g C1) = .ok (goInt (Nat.min 1 (n + 1 - i))) ((w.drew.setRow g C1).setRow g C2) := fun ty dc sc => by
    rw [hC2]
    exact INS_copy (w.drew.setRow g C1) 26 26 ty 30 3 g (i * 3) (n + 1 - i) dc ⟨vb, 0, none⟩ 1 sc C1 30 vs Try.underlying26 (by rfl) hW1g (by rw [hvl]; simp only [Nat.min_def]; split <;> omega) (fun j v hj => by
      have := hvg j v hj
      rw [Addr.add_lit]
      have hv' : (w.drew.setRow g C1).heap[vb]? = some (.cells vcur 30 (0, 0)) := (setRow_other w.drew g vb C1 hne).trans hv
      simp [World.cell?, hv', this]) (by rw [hvl, hC1s]; omega) hvs1
  have hfin : C2.size = c * 3 ∧ C2.toList.take ((n + 1) * 3) = cur.toList.take (i * 3) ++ vs ++ cs := by
    have a1 : C1.toList.take (i * 3) = cur.toList.take (i * 3) := by
      rw [hC1l, List.append_assoc, List.take_append_of_le_length (by rw [List.length_take, Array.length_toList, hsz]; omega), List.take_take, Nat.min_eq_left (by omega)]
    have a2 : C1.toList.drop (i * 3 + vs.length) = cs ++ cur.toList.drop ((i + 1) * 3 + cs.length) := by
      rw [hC1l, hvl, List.append_assoc, List.drop_append_of_le_length (by rw [List.length_take, Array.length_toList, hsz]; omega), List.drop_eq_nil_of_le (by rw [List.length_take, Array.length_toList, hsz]; omega), List.nil_append]
    have a3 : C2.toList = cur.toList.take (i * 3) ++ vs ++ cs ++ cur.toList.drop ((i + 1) * 3 + cs.length) := by
      rw [hC2, a1, a2]
      simp
    have a4 : (cur.toList.take (i * 3) ++ vs ++ cs).length = (n + 1) * 3 := by
      rw [List.length_append, List.length_append, List.length_take, Array.length_toList, hsz, hvl, hcl]
      omega
    refine ⟨?_, ?_⟩
    · rw [← Array.length_toList, a3, List.length_append, a4, List.length_drop, Array.length_toList, hsz, hcl]
      omega
    · rw [a3, List.take_append_of_le_length (by omega), List.take_of_length_le (by omega)]
  have hW2g : ((w.drew.setRow g C1).setRow g C2).heap[g]? = some (.cells C2 30 (0, 0)) := setRow_heap _ g C1 C2 30 (0, 0) hW1g
  have hW2o : ∀ k, k ≠ g → ((w.drew.setRow g C1).setRow g C2).heap[k]? = w.heap[k]? := fun k hk => (setRow_other _ g k C2 hk).trans (setRow_other w.drew g k C1 hk)
  have hW2s : ((w.drew.setRow g C1).setRow g C2).heap.size = w.heap.size := by rw [size_setRow, size_setRow]; rfl
  rw [hcs, hvs] at hfin
  have FIN := Aside0.mk hfin
  have G2 := Aside0.mk hW2g
  have O2 := Aside0.mk hW2o
  have S2 := Aside0.mk hW2s
  clear hfin hW2g hW2o hW2s hC1l hC1 hC2 hcs hvs hW1g hcsg hvg hcs1 hvs1 h1c h1v hg hv hC1s hcl hvl
  have mixed : Try.prog.follows Departure.mixedOrders = true := by kernel_rfl
  have hb2 : ¬ (c = i + 1) := by omega
  have hb4 : ¬ (c = i) := by omega
  go_enter Try.func14, Try.ntmps14
  go_wp2_with (simp only [hov])
  go_region_law_o (refine step_copy_runI rfl _ _ 26 26 rfl _ _ (by simp [Act.eval, Act.put]) (by simp [Act.eval, Act.put]) (hcp1 _ _ _) ?_)
  go_wp2_with (at_builtin; refine wpList_copy_runI _ rfl _ _ 26 26 rfl _ _ rfl rfl (hcp2 _ _ _) ?_)
  go_ret
  exact ⟨rfl, C2, FIN.out.1, FIN.out.2, G2.out, O2.out, S2.out, fun b hb => ⟨rfl, rfl, rfl, Nat.le_of_eq S2.out.symm, fun k hk => O2.out k (by omega)⟩⟩
set_option maxHeartbeats 4000000 in
set_option maxRecDepth 100000 in
theorem INS_grow {g vb n c i vc : Nat} {cur vcur : Array Value} {w : World} (hi : i < n) (hnc : n ≤ c) (hroom : c < n + 1) (hbig : n < 1000000000) (hg : w.heap[g]? = some (.cells cur 30 (0, 0))) (hsz : cur.size = c * 3) (hv : w.heap[vb]? = some (.cells vcur 30 (0, 0))) (hvz : vcur.size = vc * 3) (hvc : 1 ≤ vc)
    (h1c : ∀ v ∈ cur.toList.take (n * 3), v.oneCell' = true) (h1v : ∀ v ∈ vcur.toList.take 3, v.oneCell' = true) :
    Calls Try.prog 14 #[.slice (some ⟨g, 0, none⟩) n c, .int .i64 i, .slice (some ⟨vb, 0, none⟩) 1 vc] w fun e w' => ∃ G, e = .returned (.slice (some ⟨w.heap.size, 0, none⟩) (n + 1) G) ∧ n + 1 ≤ G ∧ G ≤ maxLen ∧ ∃ cur2 : Array Value, cur2.size = G * 3 ∧ cur2.toList.take ((n + 1) * 3) = cur.toList.take (i * 3) ++ vcur.toList.take 3 ++ (cur.toList.take (n * 3)).drop (i * 3) ∧
      w'.heap[w.heap.size]? = some (.cells cur2 30 (0, 0)) ∧ Below w.heap.size w w' := by
  have e1 : ¬ ((1 : Int) = 0) := by omega
  have e2 : ¬ ((i : Int) = (n : Int)) := by omega
  have q1 : (0 : Int) ≤ (i : Int) := by omega
  have q2 : (i : Int) ≤ (n : Int) := by omega
  have q3 : (c : Int) < (n : Int) + 1 := by omega
  have w1 : IntKind.i64.wrap ((n : Int) + 1) = (n : Int) + 1 := by rw [IntKind.wrap_i64]; omega
  have w2 : IntKind.i64.wrap ((i : Int) + 1) = (i : Int) + 1 := by rw [IntKind.wrap_i64]; omega
  have w3 : IntKind.i64.wrap ((n : Int) + 1 - (i : Int)) = (n : Int) + 1 - (i : Int) := by rw [IntKind.wrap_i64]; omega
  have q6 : (0 : Int) ≤ (i : Int) + 1 := by omega
  have q7 : (i : Int) + 1 ≤ (n : Int) + 1 := by omega
  have q8 : (i : Int) ≤ (n : Int) + 1 := by omega
  have q9 : (i : Int) ≤ (c : Int) := by omega
  have mixed : Try.prog.follows Departure.mixedOrders = true := by kernel_rfl
  obtain ⟨i0, hi0, hz0, hzs, hzb⟩ := info_parts info30
  have hglt := blk_lt hg
  have hvlt := blk_lt hv
  have hcl : ((cur.toList.take (n * 3)).drop (i * 3)).length = (n - i) * 3 := by rw [List.length_drop, List.length_take, Array.length_toList, hsz]; omega
  obtain ⟨cs, hcs⟩ : ∃ cs, cs = (cur.toList.take (n * 3)).drop (i * 3) := ⟨_, rfl⟩
  rw [← hcs] at hcl
  have hcsg : ∀ (j : Nat) (v : Value), cs[j]? = some v → cur[i * 3 + j]? = some v := by
    intro j v hj
    rw [hcs, List.getElem?_drop, List.getElem?_take] at hj
    split at hj
    · rw [← hj]
      exact (Array.getElem?_toList ..).symm
    · cases hj
  have hcs1 : ∀ v ∈ cs, v.oneCell' = true := fun v hv => by
    rw [hcs] at hv
    exact h1c v (List.mem_of_mem_drop hv)
  obtain ⟨vs, hvs⟩ : ∃ vs, vs = vcur.toList.take 3 := ⟨_, rfl⟩
  have hvl : vs.length = 3 := by rw [hvs, List.length_take, Array.length_toList, hvz]; omega
  have hvg : ∀ (j : Nat) (v : Value), vs[j]? = some v → vcur[j]? = some v := by
    intro j v hj
    rw [hvs, List.getElem?_take] at hj
    split at hj
    · rw [← hj]
      exact (Array.getElem?_toList ..).symm
    · cases hj
  have hvs1 : ∀ v ∈ vs, v.oneCell' = true := fun v hv => by
    rw [hvs] at hv
    exact h1v v hv
  obtain ⟨os, hos⟩ : ∃ os, os = cur.toList.take (i * 3) := ⟨_, rfl⟩
  have hol : os.length = i * 3 := by rw [hos, List.length_take, Array.length_toList, hsz]; omega
  have hold : (Builtin.firstCells i0.size i (.slice (some ⟨g, 0, none⟩) i c)).run Try.prog w.drew = .ok os.toArray w.drew := by
    rw [hzs]
    refine run_firstCells_some w.drew 3 i ⟨g, 0, none⟩ i c os hol (fun j v hj => ?_)
    rw [Addr.add_lit]
    have hg' : w.drew.heap[g]? = some (.cells cur 30 (0, 0)) := hg
    have : cur[j]? = some v := by
      rw [hos, List.getElem?_take] at hj
      split at hj
      · rw [← hj]
        exact (Array.getElem?_toList ..).symm
      · cases hj
    simp [World.cell?, hg', this]
  obtain ⟨G, hG⟩ : ∃ G, G = grownCap w (n + 1) c 30 := ⟨_, rfl⟩
  have hGn : n + 1 ≤ G := by rw [hG]; exact grownCap_ge w _ _ _
  have hGm : G ≤ maxLen := by
    rw [hG]
    exact grownCap_le_maxLen w (n + 1) c 30 (by unfold maxLen; omega)
  obtain ⟨ROW, hROW⟩ : ∃ ROW : Array Value, ROW = os.toArray ++ Builtin.zeroCells (Value.agg #[(.int .i64 0), (.int .i64 0), (.bool false)]).cells (n + 1 - i) ++ Builtin.zeroCells (Value.agg #[(.int .i64 0), (.int .i64 0), (.bool false)]).cells (G - (n + 1)) := ⟨_, rfl⟩
  have hRs : ROW.size = G * 3 := by
    rw [hROW]
    simp [Builtin.zeroCells, Value.cells, hol]
    omega
  have hRo : ROW.toList.take (i * 3) = os := by
    rw [hROW]
    simp [hol]
  have hrz : ∀ ty, (Builtin.append_ #[26, 3] ty #[.slice (some ⟨g, 0, none⟩) i c, .int .i64 ((n : Int) + 1 - (i : Int))]).run Try.prog w = .ok (.slice (some ⟨w.heap.size, 0, none⟩) (n + 1) G) (w.drew.alloc (.cells ROW 30)) := fun ty => by
    have h := Lib.run_append_grow_zeros w 26 3 ty 30 i0 _ .i64 .i64 Try.underlying26 Try.underlying3 hi0 hz0 (some ⟨g, 0, none⟩) i c os hold (n + 1 - i) (by omega) (by omega) (by omega) (by omega) (by rw [hzb]; omega) (by rw [hzb, show i + (n + 1 - i) = n + 1 by omega]; exact growslice_fits hroom (by omega))
    rw [show i + (n + 1 - i) = n + 1 by omega, ← hG, ← hROW, show ((n + 1 - i : Nat) : Int) = (n : Int) + 1 - (i : Int) by omega] at h
    exact h
  obtain ⟨C1, hC1⟩ : ∃ C1 : Array Value, C1 = (ROW.toList.take (i * 3) ++ vs ++ ROW.toList.drop (i * 3 + vs.length)).toArray := ⟨_, rfl⟩
  have hC1l : C1.toList = os ++ vs ++ ROW.toList.drop (i * 3 + vs.length) := by rw [hC1, hRo]
  have hC1s : C1.size = G * 3 := by rw [← Array.length_toList, hC1l, List.length_append, List.length_append, hol, hvl, List.length_drop, Array.length_toList, hRs]; omega
  obtain ⟨C2, hC2⟩ : ∃ C2 : Array Value, C2 = (C1.toList.take ((i + 1) * 3) ++ cs ++ C1.toList.drop ((i + 1) * 3 + cs.length)).toArray := ⟨_, rfl⟩
  have hcpA : ∀ W : World, W.heap = w.heap.push (.cells ROW 30 (0, 0)) → ∀ ty dc sc, (Builtin.copy_ #[26, 26] ty #[.slice (some ⟨w.heap.size, i * 3, none⟩) (n + 1 - i) dc, .slice (some ⟨vb, 0, none⟩) 1 sc]).run Try.prog W = .ok (goInt (Nat.min 1 (n + 1 - i))) (W.setRow w.heap.size C1) := fun W hW ty dc sc => by
    rw [hC1]
    exact INS_copy W 26 26 ty 30 3 w.heap.size (i * 3) (n + 1 - i) dc ⟨vb, 0, none⟩ 1 sc ROW 30 vs Try.underlying26 (by rfl) (by rw [hW]; simp) (by rw [hvl]; simp only [Nat.min_def]; split <;> omega) (fun j v hj => by
      have := hvg j v hj
      rw [Addr.add_lit]
      have hv' : W.heap[vb]? = some (.cells vcur 30 (0, 0)) := by rw [hW, Array.getElem?_push, if_neg (by omega)]; exact hv
      simp [World.cell?, hv', this]) (by rw [hvl, hRs]; omega) hvs1
  have hcpB : ∀ W : World, W.heap[w.heap.size]? = some (.cells C1 30 (0, 0)) → W.heap[g]? = some (.cells cur 30 (0, 0)) → ∀ ty dc sc, (Builtin.copy_ #[26, 26] ty #[.slice (some ⟨w.heap.size, (i + 1) * 3, none⟩) (n - i) dc, .slice (some ⟨g, i * 3, none⟩) (n - i) sc]).run Try.prog W = .ok (goInt (Nat.min (n - i) (n - i))) (W.setRow w.heap.size C2) := fun W hW hWg ty dc sc => by
    rw [hC2]
    exact INS_copy W 26 26 ty 30 3 w.heap.size ((i + 1) * 3) (n - i) dc ⟨g, i * 3, none⟩ (n - i) sc C1 30 cs Try.underlying26 (by rfl) hW (by rw [hcl]; simp only [Nat.min_def]; split <;> omega) (fun j v hj => by
      have := hcsg j v hj
      rw [Addr.add_lit]
      simp [World.cell?, hWg, this]) (by rw [hcl, hC1s]; omega) hcs1
  have hfin : C2.size = G * 3 ∧ C2.toList.take ((n + 1) * 3) = os ++ vs ++ cs := by
    have a1 : C1.toList.take ((i + 1) * 3) = os ++ vs := by
      rw [hC1l, List.take_append_of_le_length (by rw [List.length_append, hol, hvl]; omega), List.take_of_length_le (by rw [List.length_append, hol, hvl]; omega)]
    have a3 : C2.toList = os ++ vs ++ cs ++ C1.toList.drop ((i + 1) * 3 + cs.length) := by rw [hC2, a1]
    have a4 : (os ++ vs ++ cs).length = (n + 1) * 3 := by
      rw [List.length_append, List.length_append, hol, hvl, hcl]
      omega
    refine ⟨?_, ?_⟩
    · rw [← Array.length_toList, a3, List.length_append, a4, List.length_drop, Array.length_toList, hC1s, hcl]
      omega
    · rw [a3, List.take_append_of_le_length (by omega), List.take_of_length_le (by omega)]
  have hA1 : ∀ W : World, W.heap = w.heap.push (.cells ROW 30 (0, 0)) → (W.setRow w.heap.size C1).heap[w.heap.size]? = some (.cells C1 30 (0, 0)) ∧ (W.setRow w.heap.size C1).heap[g]? = some (.cells cur 30 (0, 0)) := fun W hW =>
    ⟨setRow_heap W w.heap.size ROW C1 30 (0, 0) (by rw [hW]; simp), (setRow_other W w.heap.size g C1 (by omega)).trans (by rw [hW, Array.getElem?_push, if_neg (by omega)]; exact hg)⟩
  have hA2 : ∀ W : World, W.heap = w.heap.push (.cells ROW 30 (0, 0)) → ∀ W2 : World, W2.heap = (W.setRow w.heap.size C1).heap → (W2.setRow w.heap.size C2).heap[w.heap.size]? = some (.cells C2 30 (0, 0)) ∧ (∀ k, k < w.heap.size → (W2.setRow w.heap.size C2).heap[k]? = w.heap[k]?) ∧ w.heap.size ≤ (W2.setRow w.heap.size C2).heap.size := fun W hW W2 hW2 =>
    ⟨setRow_heap W2 w.heap.size C1 C2 30 (0, 0) (by rw [hW2]; exact (hA1 W hW).1), fun k hk => (setRow_other W2 w.heap.size k C2 (by omega)).trans (by rw [hW2, setRow_other W w.heap.size k C1 (by omega), hW, Array.getElem?_push, if_neg (by omega)]), by rw [size_setRow, hW2, size_setRow, hW, Array.size_push]; omega⟩
  rw [hcs, hvs, hos] at hfin
  have FIN := Aside0.mk hfin
  have A1 := Aside0.mk hA1
  have A2 := Aside0.mk hA2
  have hE : ((w.alloc (.cells ROW 30)).drew).heap = w.heap.push (.cells ROW 30 (0, 0)) := rfl
  have hcpB' := hcpB (((w.alloc (.cells ROW 30)).drew.setRow w.heap.size C1).drew) (A1.out _ hE).1 (A1.out _ hE).2
  have hGi : ¬ (G = i) := by omega
  have hGim : ¬ (G = i + 1) := by omega
  have hci : ¬ (c = i) := by omega
  have hb1 : (i : Int) + 1 ≤ (G : Int) := by omega
  clear hfin hA1 hA2 hC1l hC1 hC2 hcs hvs hos hcsg hvg hcs1 hvs1 h1c h1v hg hv hC1s hcl hvl hold hROW hRs hRo hol hG
  go_enter Try.func14, Try.ntmps14
  go_wp2_with (first
    | (at_builtin; refine Lib.wpList_append_run _ rfl _ _ _ _ rfl _ _ rfl rfl _ _ (hrz _) ?_)
    | (at_builtin; refine wpList_copy_runI _ rfl _ _ 26 26 rfl _ _ rfl rfl (hcpA _ hE _ _ _) ?_))
  go_region_law_o (refine step_copy_runI rfl _ _ 26 26 rfl _ _ (by simp [Act.eval, Act.put]) (by simp [Act.eval, Act.put]) (hcpB' _ _ _) ?_)
  go_wp2
  go_ret
  exact ⟨G, rfl, hGn, hGm, C2, FIN.out.1, FIN.out.2, (A2.out _ hE _ rfl).1, ⟨rfl, rfl, rfl, (A2.out _ hE _ rfl).2.2, (A2.out _ hE _ rfl).2.1⟩⟩
theorem INS_reps {w w1 : World} {b b1 : Nat} {o o1 : Nat → Prop} {xs : List S30} {cs : List Value} (h : Reps (k30.M w b o) k30.sz xs cs) : Reps (k30.M w1 b1 o1) 3 xs cs :=
  Reps.imp_ h (fun p c hm => by obtain rfl := k30_openM hm; exact k30_mkM _ _ _ p)
def slices_Insert_impl_Reading.f (l0 : List S30) (a1 : Int) (l2 : List S30) : Option (List S30) := if 0 ≤ a1 then (if a1 ≤ (l0.length : Int) then (if l2.length = 1 then (if l0.length < 1000000000 then some (l0.take a1.toNat ++ l2 ++ l0.drop a1.toNat) else none) else none) else none) else none
set_option maxHeartbeats 4000000 in
set_option maxRecDepth 100000 in
theorem slices_Insert_impl_Reading.calls (P0_ : Nat → Prop) (u9000_ : Value) (l0 : List S30) (a1 : Int) (P2_ : Nat → Prop) (u9001_ : Value) (l2 : List S30) (r : List S30) (w0 w : World) (hB : Below w0.heap.size w0 w) (ho0 : Kd.R k30 30 w w0.heap.size P0_ u9000_ l0) (hd0 : ∀ k_, P0_ k_ → ¬ P2_ k_)
    (ho2 : Kd.R k30 30 w w0.heap.size P2_ u9001_ l2) (hd2 : ∀ k_, P2_ k_ → ¬ P0_ k_) (h : slices_Insert_impl_Reading.f l0 a1 l2 = some r) :
    Calls Try.prog 14 #[u9000_, .int .i64 a1, u9001_] w fun e w' => ∃ v1 : Value, e = .returned v1 ∧ Kd.R k30 30 w' w0.heap.size (fun k_ => ((P0_ k_ ∨ P2_ k_) ∨ w.heap.size ≤ k_)) v1 r ∧ Below w0.heap.size w0 w' ∧ Kept w w' (fun k_ => (P0_ k_ ∨ P2_ k_)) := by
  unfold slices_Insert_impl_Reading.f at h
  by_cases c1 : 0 ≤ a1
  · rw [if_pos c1] at h
    by_cases c2 : a1 ≤ (l0.length : Int)
    · rw [if_pos c2] at h
      by_cases c3 : l2.length = 1
      · rw [if_pos c3] at h
        by_cases c4 : l0.length < 1000000000
        · rw [if_pos c4] at h
          obtain rfl := Option.some.inj h
          obtain ⟨i, rfl⟩ : ∃ i : Nat, a1 = (i : Int) := ⟨a1.toNat, by omega⟩
          rw [Int.toNat_natCast]
          have ho2' := ho2
          obtain ⟨hok2, inner2, hown2, hr2⟩ := ho2'
          obtain ⟨hl2, hnil2 | ⟨vb, vc, vcur, hv2, hvbase, hv, hvn, hvcap, hvsz, hvtk⟩⟩ := hown2
          · omega
          · subst hv2
            rw [c3] at hvtk hvn
            by_cases e : i = l0.length
            · subst e
              obtain ⟨A0, c0, rfl⟩ := Kd.R_slice ho0
              have rd2 := (Kd.R_reads' ho2).2.2
              rw [c3] at rd2
              rw [c3]
              refine (INS_end hB ho0 rd2 c3 c4).mono fun ee w' ⟨v1, he, hR, hb, hk⟩ => ⟨v1, he, ?_, hb, hk.mono (fun k q => .inl q)⟩
              rw [List.take_length, List.drop_length, List.append_nil]
              exact Kd.R_mono hR (fun k q => q.elim (fun q => .inl (.inl q)) .inr)
            · have hi : i < l0.length := by omega
              have ho0' := ho0
              obtain ⟨hok0, inner, hown, hr⟩ := ho0'
              obtain ⟨hl0, hnil | ⟨g, c, cur, hv0, hgbase, hg, hn, hcap, hsz, htk⟩⟩ := hown
              · omega
              · subst hv0
                have pg : P0_ g := hok0 g rfl
                have pv : P2_ vb := hok2 vb rfl
                have hne : vb ≠ g := fun q => hd0 g pg (q ▸ pv)
                have sz3 : k30.sz = 3 := rfl
                rw [sz3] at hl2 hvsz hvtk hl0 hsz htk
                rw [Nat.one_mul] at hvtk
                have o1 : ∀ v ∈ cur.toList.take (l0.length * 3), v.oneCell' = true := by
                  rw [htk]
                  exact Kd.reps_one hr (by decide) (fun p c hm => k30.K_one (k30.K_of_M hm))
                have o2 : ∀ v ∈ vcur.toList.take 3, v.oneCell' = true := by
                  rw [hvtk]
                  exact Kd.reps_one hr2 (by decide) (fun p c hm => k30.K_one (k30.K_of_M hm))
                have rlen : (l0.take i ++ l2 ++ l0.drop i).length = l0.length + 1 := by
                  rw [List.length_append, List.length_append, List.length_take, List.length_drop, c3]
                  omega
                have seg : cur.toList.take (i * 3) = inner.take (i * 3) := by rw [← htk, List.take_take, Nat.min_eq_left (by omega)]
                have mk : ∀ (w' : World) (b : Nat) (o : Nat → Prop), Reps (k30.M w' b o) 3 (l0.take i ++ l2 ++ l0.drop i) (inner.take (i * 3) ++ inner2 ++ inner.drop (i * 3)) := fun w' b o => Kd.reps_append (Kd.reps_append (Kd.reps_take (INS_reps hr) (by omega)) (INS_reps hr2)) (Kd.reps_drop (INS_reps hr))
                have ilen : (inner.take (i * 3) ++ inner2 ++ inner.drop (i * 3)).length = (l0.length + 1) * 3 := by
                  rw [List.length_append, List.length_append, List.length_take, List.length_drop, hl0, hl2, c3]
                  omega
                rw [c3]
                by_cases hroom : l0.length + 1 ≤ c
                · refine (INS_shift hi hroom hcap hg hsz hv hvsz hvn hne o1 o2).mono fun ee w' ⟨he, cur2, z1, z2, z3, z4, z5, z6⟩ => ⟨_, he, ?_, hB.trans (z6 _ hgbase), ⟨Nat.le_of_eq z5.symm, fun k hk hns => z4 k (fun q => hns (by rw [q]; exact .inl pg))⟩⟩
                  rw [htk, hvtk, seg] at z2
                  refine ⟨fun k hk => by injection hk with hk; subst hk; exact .inl (.inl pg), _, ⟨by rw [ilen, rlen]; rfl, Or.inr ⟨g, c, cur2, by rw [rlen], hgbase, z3, by rw [rlen]; exact hroom, hcap, z1, by rw [rlen]; exact z2⟩⟩, mk _ _ _⟩
                · refine (INS_grow hi hn (by omega) c4 hg hsz hv hvsz hvn o1 o2).mono fun ee w' ⟨G, he, g1, g2, cur2, z1, z2, z3, z4⟩ => ⟨_, he, ?_, hB.trans (z4.mono hB.size), Kept.of_below z4 _⟩
                  rw [htk, hvtk, seg] at z2
                  refine ⟨fun k hk => by injection hk with hk; subst hk; exact .inr (Nat.le_refl _), _, ⟨by rw [ilen, rlen]; rfl, Or.inr ⟨w.heap.size, G, cur2, by rw [rlen], hB.size, z3, by rw [rlen]; exact g1, g2, z1, by rw [rlen]; exact z2⟩⟩, mk _ _ _⟩
        · rw [if_neg c4] at h
          cases h
      · rw [if_neg c3] at h
        cases h
    · rw [if_neg c2] at h
      cases h
  · rw [if_neg c1] at h
    cases h

/-! ### slices_Clone_impl_Reading: function 15 -/
def slices_Clone_impl_Reading.f (l0 : List (S30)) : Option ((List (S30))) := (some (([] : List (S30)) : List (S30))).bind fun y183 => (if y183.length + l0.length < 5864062014805 then (some (y183 ++ l0)) else (none))
set_option maxHeartbeats 8000000 in
set_option maxRecDepth 100000 in
theorem slices_Clone_impl_Reading.calls (A0 : Option Addr) (c0 : Nat) (l0 : List (S30)) (r : List (S30)) (w : World) (hr0 : Kd.C k30 w A0 l0.length l0) (hc0 : l0.length ≤ c0) (h : slices_Clone_impl_Reading.f l0 = some r) :
    Calls Try.prog 15 #[.slice A0 l0.length c0] w fun e w' => ∃ v0_ : Value, e = .returned (v0_) ∧ Kd.R k30 30 w' w.heap.size (fun _ => True) v0_ r ∧ Below w.heap.size w w' := by
  have HR0 := Aside0.mk hr0
  have HC0 := Aside0.mk hc0
  clear hr0 hc0
  have HB := Aside0.mk (Below.refl w.heap.size w)
  have H : ((some (([] : List (S30)) : List (S30))).bind fun y183 => (if y183.length + l0.length < 5864062014805 then (some (y183 ++ l0)) else (none))) = some r := h
  clear h
  obtain ⟨y183, hy183⟩ : ∃ y_ : List (S30), y_ = (([] : List (S30))) := ⟨_, rfl⟩
  replace H : (if y183.length + l0.length < 5864062014805 then (some (y183 ++ l0)) else (none)) = some r := by (have H2_ := (Option.bind_some _ _).symm.trans H; rw [hy183]; with_reducible exact H2_)
  have Ny183 := Aside0.mk hy183
  clear hy183
  by_cases c2 : y183.length + l0.length < 5864062014805
  · rw [if_pos c2] at H
    have LMc2 := Aside0.mk c2
    clear c2
    obtain ⟨y186, hy186⟩ : ∃ y_ : List (S30), y_ = (y183 ++ l0) := ⟨_, rfl⟩
    replace H : (some y186) = some r := by (rw [hy186]; with_reducible exact H)
    have Ny186 := Aside0.mk hy186
    clear hy186
    obtain rfl := Option.some.inj H
    have hnil_ := fun (w_ : World) (a_ : Option Addr) (n_ c_ : Nat) => Lib.run_eql_slice_nil (P := Try.prog) w_ 26 30 a_ n_ c_ 0 0 Try.underlying26
    rcases A0 with _ | ad0_
    · have l0nil : l0 = [] := by
        rcases l0 with _ | ⟨x_, l_⟩
        · rfl
        · obtain ⟨ad_, e_, _⟩ := HR0.out.2.2 (by simp)
          cases e_
      have rnil : y186 = [] := by rw [Ny186.out, Ny183.out, l0nil]; rfl
      subst rnil
      subst l0nil
      go_enter Try.func15, Try.ntmps15
      go_wp2
      go_ret
      exact ⟨_, rfl, Kd.R_nil _ _ _ _ _, Below.refl _ _⟩
    · go_enter Try.func15, Try.ntmps15
      go_wp2_with (first | ((with_reducible refine gate_dst (N := 5) rfl ?_); refine Kd.R_lit k30 _ 30 ?hg (N := 5) ?hd (xs := ([] : List (S30))) (inner := []) (ok := fun _ => True) (okp := fun _ => True) ?hr ?hp (fun _ hk => hk) trivial (Below.refl _ _) (Nat.le_refl _) (by simp) ?_; (case hd => rfl); (case hg => rfl); (case hr => (go_simp; done)); (case hp => exact (Reps.none _ _)); intro v184 w3 ho4 hb hg_ hnew_; clear hg_ hnew_; (rw [← Ny183.out] at ho4); have n0_ := Aside0.mk (Kd.R_lower ho4 (below_size (by exact HB.out))); have n1_ := Aside0.mk (below_step (by exact HB.out) hb); clear HB; have HO185 := n0_; have HB := n1_; clear n0_ n1_; clear hb ho4) | ((with_reducible refine gate_builtin (b := .append) (xs := #[.tmp 5, .tmp 6]) rfl ?_); at_builtin; refine Kd.R_append_rows k30 (w0 := w) w.heap.size rfl (.tmp 5) (.tmp 6) 26 30 (.agg #[(.int .i64 0), (.int .i64 0), (.bool false)]) 24 rfl Try.underlying26 info30 rfl (by decide) (by omega) v184 y183 l0 _ _ _ (fun _ => True) (fun _ => False) rfl rfl ?aO ?aR (fun _ _ h => h) (fun _ h => h.elim) ?aF ?aB ?aS ?aL ?_; (case aR => repeat (exact (Kd.C_below HR0.out HB.out))); (case aB => exact (by exact HB.out)); (case aF => exact (fun _ _ => trivial)); (case aO => exact (by exact HO185.out)); (case aS => exact (below_size (by exact HB.out))); (case aL => have := LMc2.out; omega); intro v187 w5 ho hb hg hat; rw [← Ny186.out] at ho; have n0_ := Aside0.mk (hb); have n1_ := Aside0.mk (ho); clear HB; clear HO185; have HB := n0_; have HO188 := n1_; clear n0_ n1_; clear ho hb hg hat))
      go_ret
      exact ⟨_, by rfl, by exact HO188.out, by exact HB.out⟩
  · rw [if_neg c2] at H
    exact absurd H (by simp)

end Go.Proofs.Ytanjdogfghkddaa.PFnExactAddReading
