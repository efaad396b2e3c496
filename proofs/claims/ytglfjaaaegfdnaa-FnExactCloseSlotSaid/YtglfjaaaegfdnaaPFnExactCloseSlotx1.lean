-- Written by a program of this session, over the kit's print (wip/xprint.py)
import Derived.Test.YtglfjaaaegfdnaaPFnExactCloseSlotx0
namespace Go.Proofs.Ytglfjaaaegfdnaa.PFnExactCloseSlot
open Go.RowKit Go.Proofs.YtglfjaaaegfdnaaW.PrintWords Go.Proofs.YtglfjaaaegfdnaaW.PrintLast Go.Proofs.YtglfjaaaegfdnaaW.PrintMore
attribute [local go_sem] max2_int min2_int max_two min_two max_three min_three max_four min_four   -- for this text's walks alone
set_option linter.unusedVariables false
set_option linter.unusedSimpArgs false

/-! ### impl_within: function 53 -/
def impl_within.f (a0 : Int) (a1 : Int) (a2 : Int) : Option (Bool):=if a0 ≥ a1 then (some (decide (a0 ≤ a2))) else (some false)
set_option maxHeartbeats 8000000 in
set_option maxRecDepth 100000 in
theorem impl_within.calls (a0 : Int) (a1 : Int) (a2 : Int) (r : Bool) (w : World) (h : impl_within.f a0 a1 a2 = some r) :
  Calls Try.prog 53 #[.int .i64 a0, .int .i64 a1, .int .i64 a2] w fun e w' => e = .returned (.bool r) ∧ Drawn0 w w':=by
 have H : (if a0 ≥ a1 then (some (decide (a0 ≤ a2))) else (some false)) = some r:=h;clear h
 by_cases c4 : a0 ≥ a1
 ·rw [if_pos c4] at H;have c4b0 : decide (a1 ≤ a0) = true:=decide_eq_true c4;clear c4;obtain rfl:=Option.some.inj H
  go_enter Try.func53,Try.ntmps53
  go_wp2
  go_ret
  exact ⟨by first | rfl | (simp;done) | (simp [*];done),by repeat (first | exact Drawn0.refl _ | apply Drawn0.step)⟩
 ·rw [if_neg c4] at H;have c4b0 : decide (a1 ≤ a0) = false:=decide_eq_false c4;clear c4;obtain rfl:=Option.some.inj H
  go_enter Try.func53,Try.ntmps53
  go_wp2
  go_ret
  exact ⟨by first | rfl | (simp;done) | (simp [*];done),by repeat (first | exact Drawn0.refl _ | apply Drawn0.step)⟩

/-! ### impl_IsValidGate: function 15 -/
mutual
def impl_IsValidGate.j0 : Nat → Bool → List Int → List (List Int) → Option (Bool)
 | 0,_,_,_ => none
 | k + 1,x21,x102000,x102001 => if x21 = true then (some false) else (impl_IsValidGate.l0 k ([] : List Int) x102001 (x102001.length : Int) 0 x102000 x102001)
def impl_IsValidGate.l0 : Nat → List Int → List (List Int) → Int → Int → List Int → List (List Int) → Option (Bool)
 | 0,_,_,_,_,_,_ => none
 | k + 1,x3,x24,x25,x26,x102000,x102001 => if x26 < x25 then (if 0 ≤ x26 then (if x26 < (x24.length : Int) then (if x26 < (x102000.length : Int) then ((impl_within.f (rd x102000 x26) 0 6).bind fun t106 => (if t106 = true then (impl_IsValidGate.j2 k x3 (rd_L1 x24 x26) x24 x25 x26 (decide (((rd_L1 x24 x26).length : Int) > (rd x102000 x26))) x102000 x102001) else (impl_IsValidGate.j2 k x3 (rd_L1 x24 x26) x24 x25 x26 true x102000 x102001))) else (none)) else (none)) else (none)) else ((klen.f x3).bind fun t103 => (some (decide (t103 ≤ 30))))
def impl_IsValidGate.j2 : Nat → List Int → List Int → List (List Int) → Int → Int → Bool → List Int → List (List Int) → Option (Bool)
 | 0,_,_,_,_,_,_,_,_ => none
 | k + 1,x3,x5,x24,x25,x26,x47,x102000,x102001 => if x47 = true then (some false) else (impl_IsValidGate.l1 k x3 x5 x24 x25 x26 x5 (x5.length : Int) 0 x102000 x102001)
def impl_IsValidGate.l1 : Nat → List Int → List Int → List (List Int) → Int → Int → List Int → Int → Int → List Int → List (List Int) → Option (Bool)
 | 0,_,_,_,_,_,_,_,_,_,_ => none
 | k + 1,x3,x5,x24,x25,x26,x48,x49,x50,x102000,x102001 => if x50 < x49 then (if 0 ≤ x50 then (if x50 < (x48.length : Int) then ((impl_within.f (rd x48 x50) 1 99).bind fun t109 => (if t109 = true then ((klook.f x3 (rd x48 x50)).bind fun t110 => (if t110 = true then (some false) else (if x50 > 0 then (if 0 ≤ (wrap64 (x50 - 1)) then (if (wrap64 (x50 - 1)) < (x5.length : Int) then (if (rd x48 x50) ≤ (rd x5 (wrap64 (x50 - 1))) then (some false) else ((kput.f x3 (rd x48 x50)).bind fun t112 => (impl_IsValidGate.l1 k t112 x5 x24 x25 x26 x48 x49 (wrap64 (x50 + 1)) x102000 x102001))) else (none)) else (none)) else ((kput.f x3 (rd x48 x50)).bind fun t113 => (impl_IsValidGate.l1 k t113 x5 x24 x25 x26 x48 x49 (wrap64 (x50 + 1)) x102000 x102001))))) else (some false))) else (none)) else (none)) else (impl_IsValidGate.l0 k x3 x24 x25 (wrap64 (x26 + 1)) x102000 x102001)
end
def impl_IsValidGate.f (k : Nat) (l0_0 : List Int) (l0_1 : List (List Int)) : Option (Bool):=(impl_within.f (l0_0.length : Int) 1 12).bind fun t102 => (if t102 = true then (impl_IsValidGate.j0 k ((l0_1.length : Int) != (l0_0.length : Int)) l0_0 l0_1) else (impl_IsValidGate.j0 k true l0_0 l0_1))
theorem impl_IsValidGate.mono_l : ∀ k,(∀ y0 y1 y2,LeO (impl_IsValidGate.j0 k y0 y1 y2) (impl_IsValidGate.j0 (k + 1) y0 y1 y2)) ∧ (∀ y0 y1 y2 y3 y4 y5,LeO (impl_IsValidGate.l0 k y0 y1 y2 y3 y4 y5) (impl_IsValidGate.l0 (k + 1) y0 y1 y2 y3 y4 y5)) ∧ (∀ y0 y1 y2 y3 y4 y5 y6 y7,LeO (impl_IsValidGate.j2 k y0 y1 y2 y3 y4 y5 y6 y7) (impl_IsValidGate.j2 (k + 1) y0 y1 y2 y3 y4 y5 y6 y7)) ∧ (∀ y0 y1 y2 y3 y4 y5 y6 y7 y8 y9,LeO (impl_IsValidGate.l1 k y0 y1 y2 y3 y4 y5 y6 y7 y8 y9) (impl_IsValidGate.l1 (k + 1) y0 y1 y2 y3 y4 y5 y6 y7 y8 y9))
 | 0 => ⟨fun _ _ _ r h => by simp [impl_IsValidGate.j0] at h,fun _ _ _ _ _ _ r h => by simp [impl_IsValidGate.l0] at h,fun _ _ _ _ _ _ _ _ r h => by simp [impl_IsValidGate.j2] at h,fun _ _ _ _ _ _ _ _ _ _ r h => by simp [impl_IsValidGate.l1] at h⟩
 | k + 1 => by
  obtain ⟨ih0,ih1,ih2,ih3⟩ := impl_IsValidGate.mono_l k;refine ⟨?_, ?_, ?_, ?_⟩
  ·intro y0 y1 y2
   unfold impl_IsValidGate.j0
   repeat' first
   | (with_reducible exact ih0 _ _ _)
   | (with_reducible exact ih1 _ _ _ _ _ _)
   | (with_reducible exact ih2 _ _ _ _ _ _ _ _)
   | (with_reducible exact ih3 _ _ _ _ _ _ _ _ _ _)
   | (with_reducible exact LeO.refl _)
   | (with_reducible exact LeO.none _)
   | (with_reducible refine LeO.ite ?_ ?_)
   | (with_reducible refine LeO.bind ?_ (fun _ => ?_))
   | exact ih0 _ _ _
   | exact ih1 _ _ _ _ _ _
   | exact ih2 _ _ _ _ _ _ _ _
   | exact ih3 _ _ _ _ _ _ _ _ _ _
   | exact LeO.none _
   | refine LeO.ite ?_ ?_
   | refine LeO.bind ?_ (fun _ => ?_)
  ·intro y0 y1 y2 y3 y4 y5
   unfold impl_IsValidGate.l0
   repeat' first
   | (with_reducible exact ih0 _ _ _)
   | (with_reducible exact ih1 _ _ _ _ _ _)
   | (with_reducible exact ih2 _ _ _ _ _ _ _ _)
   | (with_reducible exact ih3 _ _ _ _ _ _ _ _ _ _)
   | (with_reducible exact LeO.refl _)
   | (with_reducible exact LeO.none _)
   | (with_reducible refine LeO.ite ?_ ?_)
   | (with_reducible refine LeO.bind ?_ (fun _ => ?_))
   | exact ih0 _ _ _
   | exact ih1 _ _ _ _ _ _
   | exact ih2 _ _ _ _ _ _ _ _
   | exact ih3 _ _ _ _ _ _ _ _ _ _
   | exact LeO.none _
   | refine LeO.ite ?_ ?_
   | refine LeO.bind ?_ (fun _ => ?_)
  ·intro y0 y1 y2 y3 y4 y5 y6 y7
   unfold impl_IsValidGate.j2
   repeat' first
   | (with_reducible exact ih0 _ _ _)
   | (with_reducible exact ih1 _ _ _ _ _ _)
   | (with_reducible exact ih2 _ _ _ _ _ _ _ _)
   | (with_reducible exact ih3 _ _ _ _ _ _ _ _ _ _)
   | (with_reducible exact LeO.refl _)
   | (with_reducible exact LeO.none _)
   | (with_reducible refine LeO.ite ?_ ?_)
   | (with_reducible refine LeO.bind ?_ (fun _ => ?_))
   | exact ih0 _ _ _
   | exact ih1 _ _ _ _ _ _
   | exact ih2 _ _ _ _ _ _ _ _
   | exact ih3 _ _ _ _ _ _ _ _ _ _
   | exact LeO.none _
   | refine LeO.ite ?_ ?_
   | refine LeO.bind ?_ (fun _ => ?_)
  ·intro y0 y1 y2 y3 y4 y5 y6 y7 y8 y9
   unfold impl_IsValidGate.l1
   repeat' first
   | (with_reducible exact ih0 _ _ _)
   | (with_reducible exact ih1 _ _ _ _ _ _)
   | (with_reducible exact ih2 _ _ _ _ _ _ _ _)
   | (with_reducible exact ih3 _ _ _ _ _ _ _ _ _ _)
   | (with_reducible exact LeO.refl _)
   | (with_reducible exact LeO.none _)
   | (with_reducible refine LeO.ite ?_ ?_)
   | (with_reducible refine LeO.bind ?_ (fun _ => ?_))
   | exact ih0 _ _ _
   | exact ih1 _ _ _ _ _ _
   | exact ih2 _ _ _ _ _ _ _ _
   | exact ih3 _ _ _ _ _ _ _ _ _ _
   | exact LeO.none _
   | refine LeO.ite ?_ ?_
   | refine LeO.bind ?_ (fun _ => ?_)
theorem impl_IsValidGate.mono : ∀ a0 a1 k,LeO (impl_IsValidGate.f k a0 a1) (impl_IsValidGate.f (k + 1) a0 a1):=by
 intro a0 a1 k;obtain ⟨ih0,ih1,ih2,ih3⟩ := impl_IsValidGate.mono_l k
 unfold impl_IsValidGate.f
 repeat' first
   | (with_reducible exact ih0 _ _ _)
   | (with_reducible exact ih1 _ _ _ _ _ _)
   | (with_reducible exact ih2 _ _ _ _ _ _ _ _)
   | (with_reducible exact ih3 _ _ _ _ _ _ _ _ _ _)
   | (with_reducible exact LeO.refl _)
   | (with_reducible exact LeO.none _)
   | (with_reducible refine LeO.ite ?_ ?_)
   | (with_reducible refine LeO.bind ?_ (fun _ => ?_))
   | exact ih0 _ _ _
   | exact ih1 _ _ _ _ _ _
   | exact ih2 _ _ _ _ _ _ _ _
   | exact ih3 _ _ _ _ _ _ _ _ _ _
   | exact LeO.none _
   | refine LeO.ite ?_ ?_
   | refine LeO.bind ?_ (fun _ => ?_)
set_option maxHeartbeats 8000000 in
set_option maxRecDepth 100000 in
theorem impl_IsValidGate.calls (k : Nat) (A0_0 : Option Addr) (c0_0 : Nat) (l0_0 : List Int) (A0_1 : Option Addr) (c0_1 : Nat) (l0_1 : List (List Int)) (r : Bool) (w : World) (hr0_0 : Kd.C (Kd.int .i64) w A0_0 l0_0.length l0_0) (hc0_0 : l0_0.length ≤ c0_0) (hr0_1 : Kd.C (Kd.slice 3 (Kd.int .i64)) w A0_1 l0_1.length l0_1) (hc0_1 : l0_1.length ≤ c0_1) (h : impl_IsValidGate.f k l0_0 l0_1 = some r) :
  Calls Try.prog 15 #[.agg #[.slice A0_0 l0_0.length c0_0, .slice A0_1 l0_1.length c0_1]] w fun e w' => e = .returned (.bool r) ∧ Below w.heap.size w w':=by
 have hu27:=Try.underlying27;have HR0_0:=am_ hr0_0;have HC0_0:=am_ hc0_0;clear hr0_0 hc0_0;have HR0_1:=am_ hr0_1;have HC0_1:=am_ hc0_1;clear hr0_1 hc0_1;have HB:=am_ (Below.refl w.heap.size w);have H : ((impl_within.f (l0_0.length : Int) 1 12).bind fun t102 => (if t102 = true then (impl_IsValidGate.j0 k ((l0_1.length : Int) != (l0_0.length : Int)) l0_0 l0_1) else (impl_IsValidGate.j0 k true l0_0 l0_1))) = some r:=h;clear h;have HC2:=am_ H;clear H;have hmm := @run_makeMap Try.prog
 go_enter Try.func15,Try.ntmps15
 go_upto_region 1 with (first | ((with_reducible refine gate_dst (N:=1) rfl ?_);(try (refine gate_guard (by rfl) ?_;dsimp only));refine box_event ?hg (N:=1) ?hd (cs:=#[.slice A0_0 l0_0.length c0_0, .slice A0_1 l0_1.length c0_1]) (t:=27) ?hr ?_;(case hd => rfl);(case hg => rfl);(case hr => first | (go_simp;done) | (go_simp;rfl));intro gb101 hg w3 hbox hb;have n0_:=am_ (below_step (by repeat (first | (with_reducible first | exact HB.out | apply below_alloc | apply pw_below_drewN | apply below_drew1) | exact HB.out)) hb);have n1_:=am_ hbox;have n2_:=am_ ((by rw [hg];exact (below_size (by repeat (first | (with_reducible first | exact HB.out | apply below_alloc | apply pw_below_drewN | apply below_drew1) | exact HB.out))) : w.heap.size ≤ gb101));have n3_:=am_ ((by rw [hg];exact (below_size (by repeat (first | (with_reducible first | exact HB.out | apply below_alloc | apply pw_below_drewN | apply below_drew1) | exact HB.out))) : w.heap.size ≤ gb101));clear HB;have HB:=n0_;have BK101:=n1_;have GW101:=n2_;have GE101:=n3_;clear n0_ n1_ n2_ n3_;clear hb hbox hg))
 (try simp only [Act.put,sA_,s0_,s1_])
 go_cut [21] (fun v21 wc => ∃ (kq : Nat) (x21_1 : Bool),v21 = .bool x21_1 ∧ Aside0 (impl_IsValidGate.j0 kq x21_1 l0_0 l0_1 = some r) ∧ Aside0 (kq ≤ k) ∧ Aside0 (wc.heap[gb101]? = some (.cells #[(.slice A0_0 l0_0.length c0_0),(.slice A0_1 l0_1.length c0_1)] 27 (0,0))) ∧ Aside0 (Below w.heap.size w wc))
 case first =>
  have H:=HC2.out;clear HC2;replace H:=Option.bind_eq_some_iff.mp H;obtain ⟨t102,A40,H⟩ := H;replace H : (if t102 = true then (impl_IsValidGate.j0 k ((l0_1.length : Int) != (l0_0.length : Int)) l0_0 l0_1) else (impl_IsValidGate.j0 k true l0_0 l0_1)) = some r:=H;have A4:=am_ A40;clear A40
  by_cases c5 : t102 = true
  ·subst c5
   have H1 : (impl_IsValidGate.j0 k ((l0_1.length : Int) != (l0_0.length : Int)) l0_0 l0_1) = some r:=by rw [if_pos rfl] at H;exact H
   clear H;have H:=H1;clear H1;have H':=am_ H;clear H;have hcz6_0:=c2_0 BK101.out;have hcz6_1:=c2_1 BK101.out;have hfz6_0:=blk_frozen BK101.out 0;have hfz6_1:=blk_frozen BK101.out 1
   go_wp2_with (first | ((with_reducible refine gate_callee (f:=53) rfl ?_);refine goesL_ (some 11) rfl rfl Try.func53 (by kernel_rfl) rfl #[.int .i64 (l0_0.length : Int), .int .i64 1, .int .i64 12] rfl (by (try simp only [List.map_toArray,List.map_cons,List.map_nil]);first | done | rfl | (simp only [List.length_drop,List.length_take];rfl)) ?_;(with_reducible refine (impl_within.calls (l0_0.length : Int) 1 12 true _ A4.out).mono ?_);rintro e w' ⟨rfl,⟨nd,rfl⟩⟩;refine ⟨_,rfl, ?_⟩))
   go_meet
   case rel => exact ⟨_,(((l0_1.length : Int) != (l0_0.length : Int))),(by first | rfl | (simp;done) | (simp [*];done)),H',⟨by first | omega | exact Nat.le_refl _⟩,⟨by (with_reducible repeat (first | refine blk_drewN ?_ _ | refine blk_drew ?_ | refine blk_alloc ?_ _));exact BK101.out⟩,⟨by repeat (first | (with_reducible first | exact HB.out | apply below_alloc | apply pw_below_drewN | apply below_drew1 | refine below_set ?_ GE101.out) | exact HB.out)⟩⟩
  ·replace c5:=Bool.eq_false_iff.mpr c5;subst c5
   have H1 : (impl_IsValidGate.j0 k true l0_0 l0_1) = some r:=by rw [if_neg (show ¬ (false = true) by decide)] at H;exact H
   clear H;have H:=H1;clear H1;have H':=am_ H;clear H;have hcz7_0:=c2_0 BK101.out;have hcz7_1:=c2_1 BK101.out;have hfz7_0:=blk_frozen BK101.out 0;have hfz7_1:=blk_frozen BK101.out 1
   go_wp2_with (first | ((with_reducible refine gate_callee (f:=53) rfl ?_);refine goesL_ (some 11) rfl rfl Try.func53 (by kernel_rfl) rfl #[.int .i64 (l0_0.length : Int), .int .i64 1, .int .i64 12] rfl (by (try simp only [List.map_toArray,List.map_cons,List.map_nil]);first | done | rfl | (simp only [List.length_drop,List.length_take];rfl)) ?_;(with_reducible refine (impl_within.calls (l0_0.length : Int) 1 12 false _ A4.out).mono ?_);rintro e w' ⟨rfl,⟨nd,rfl⟩⟩;refine ⟨_,rfl, ?_⟩))
   go_meet
   case rel => exact ⟨_,(true),(by first | rfl | (simp;done) | (simp [*];done)),H',⟨by first | omega | exact Nat.le_refl _⟩,⟨by (with_reducible repeat (first | refine blk_drewN ?_ _ | refine blk_drew ?_ | refine blk_alloc ?_ _));exact BK101.out⟩,⟨by repeat (first | (with_reducible first | exact HB.out | apply below_alloc | apply pw_below_drewN | apply below_drew1 | refine below_set ?_ GE101.out) | exact HB.out)⟩⟩
 case rest =>
  clear HC2;(try clear c1);(try clear p2);(try clear c5);(try clear hcz6_0);(try clear hcz6_1);(try clear hcz7_0);(try clear hcz7_1);(try clear hfz6_0);(try clear hfz6_1);(try clear hfz7_0);(try clear hfz7_1);obtain ⟨kq,x21_1,rfl,HA,HJ1,BK101,HB⟩ := hcut
  cases kq with
  | zero => exact absurd HA.out (by simp [impl_IsValidGate.j0])
  | succ kj1 =>
   have H:=HA.out;clear HA;simp only [impl_IsValidGate.j0] at H
   by_cases c8 : x21_1 = true
   ·subst c8
    have H1 : (some false) = some r:=by rw [if_pos rfl] at H;exact H
    clear H;have H:=H1;clear H1;obtain rfl:=Option.some.inj H
    go_wp2
    go_ret
    exact ⟨by first | rfl | (simp [errW_none,errW_some] <;> rfl) | (simp [*,errW_none,errW_some] <;> rfl),by repeat (first | (with_reducible first | exact HB.out | apply below_alloc | apply pw_below_drewN | apply below_drew1 | refine below_set ?_ GE101.out) | exact HB.out)⟩
   ·replace c8:=Bool.eq_false_iff.mpr c8;subst c8
    have H1 : (impl_IsValidGate.l0 kj1 ([] : List Int) l0_1 (l0_1.length : Int) 0 l0_0 l0_1) = some r:=by rw [if_neg (show ¬ (false = true) by decide)] at H;exact H
    clear H;have H:=H1;clear H1;have H':=am_ H;clear H;have hcz9_0:=c2_0 BK101.out;have hcz9_1:=c2_1 BK101.out;have hfz9_0:=blk_frozen BK101.out 0;have hfz9_1:=blk_frozen BK101.out 1;obtain ⟨mb,hmb⟩ : ∃ m_ : Nat,wc.heap.size = m_:=⟨_,rfl⟩;have HGE:=am_ (show w.heap.size ≤ mb from by rw [← hmb];exact HB.out.size);have HGB:=am_ (show gb101 < mb from by rw [← hmb];exact blk_lt BK101.out);have hcz9_0a : (wc.alloc (.map #[] 0)).cell? ⟨gb101,0,none⟩ = some (.slice A0_0 l0_0.length c0_0):=(blk_cell (blk_alloc BK101.out _) 0).trans rfl;have hfz9_0b:=blk_frozen (blk_alloc BK101.out (.map #[] 0)) 0;have hcz9_1a : (wc.alloc (.map #[] 0)).cell? ⟨gb101,1,none⟩ = some (.slice A0_1 l0_1.length c0_1):=(blk_cell (blk_alloc BK101.out _) 1).trans rfl;have hfz9_1b:=blk_frozen (blk_alloc BK101.out (.map #[] 0)) 1
    go_wp2
    (try rw [hmb]);clear hmm;clear hcz9_0a;(try clear hfz9_0b);clear hcz9_1a;(try clear hfz9_1b)
    go_loopg [26] kj1 (fun kq v26 w' => ∃ (x3_2 : List Int) (x26_2 : Int),v26 = .int .i64 x26_2 ∧ Aside0 (impl_IsValidGate.l0 kq x3_2 l0_1 (l0_1.length : Int) x26_2 l0_0 l0_1 = some r) ∧ Aside0 (kq ≤ kj1) ∧ Aside0 (w'.heap[gb101]? = some (.cells #[(.slice A0_0 l0_0.length c0_0),(.slice A0_1 l0_1.length c0_1)] 27 (0,0))) ∧ Aside0 (Below w.heap.size w w') ∧ Aside0 (MapSet Try.prog 3 4 mb w' x3_2))
    case atStart => exact ⟨([] : List Int),(0),(by first | rfl | (simp;done) | (simp [*];done)),H',⟨Nat.le_refl _⟩,⟨by (with_reducible repeat (first | refine blk_drewN ?_ _ | refine blk_drew ?_ | refine blk_alloc ?_ _));exact BK101.out⟩,⟨by repeat (first | (with_reducible first | exact HB.out | apply below_alloc | apply pw_below_drewN | apply below_drew1 | refine below_set ?_ GE101.out) | exact HB.out)⟩,⟨by rw [← hmb];exact MapSet_made _ _ _ _⟩⟩
    case round =>
     clear H';(try clear c1);(try clear p2);(try clear c5);(try clear c8);(try clear hcz6_0);(try clear hcz6_1);(try clear hcz7_0);(try clear hcz7_1);(try clear hcz9_0);(try clear hcz9_1);(try clear hfz6_0);(try clear hfz6_1);(try clear hfz7_0);(try clear hfz7_1);(try clear hfz9_0);(try clear hfz9_1);(try clear p2);obtain ⟨x3_2,x26_2,rfl,HA,HK2,BK101,HB,HM⟩ := hrel
     cases gk with
     | zero => exact absurd HA.out (by simp [impl_IsValidGate.l0])
     | succ k2 =>
      have H:=HA.out;clear HA;simp only [impl_IsValidGate.l0] at H
      by_cases c10 : x26_2 < (l0_1.length : Int)
      ·rw [if_pos c10] at H;have c10b0 : decide (x26_2 < (l0_1.length : Int)) = true:=decide_eq_true c10;clear c10
       by_cases c11 : 0 ≤ x26_2
       ·rw [if_pos c11] at H;have c11b0 : decide (0 ≤ x26_2) = true:=decide_eq_true c11;clear c11
        by_cases c12 : x26_2 < (l0_1.length : Int)
        ·rw [if_pos c12] at H;have c12b0 : decide (x26_2 < (l0_1.length : Int)) = true:=decide_eq_true c12;clear c12;have HC13:=am_ H;clear H;have p104 : 0 ≤ (x26_2 : Int):=of_decide_eq_true (by first | (with_reducible assumption) | assumption);have q104 : x26_2 < (l0_1.length : Int):=of_decide_eq_true (by first | (with_reducible assumption) | assumption);obtain ⟨ad104,A104_0,c104_0,e104,hx104_0,hl104_0,hi104_0⟩ := at_L1 HR0_1.out x26_2 p104 q104;cases e104;replace hx104_0:=(HB.out.cell (World.block_lt_of_cell? w _ hx104_0)).trans hx104_0;have HR104_0:=am_ hi104_0;have HC104_0:=am_ hl104_0;clear hi104_0 hl104_0;replace p104:=eq_true p104;replace q104:=eq_true q104
         go_upto_region 7 with (fail)
         go_cut [47] (fun v47 wc => ∃ (kq : Nat) (x47_12 : Bool),v47 = .bool x47_12 ∧ Aside0 (impl_IsValidGate.j2 kq x3_2 (rd_L1 l0_1 x26_2) l0_1 (l0_1.length : Int) x26_2 x47_12 l0_0 l0_1 = some r) ∧ Aside0 (kq ≤ k2) ∧ Aside0 (wc.heap[gb101]? = some (.cells #[(.slice A0_0 l0_0.length c0_0),(.slice (some ad104) l0_1.length c0_1)] 27 (0,0))) ∧ Aside0 (Below w.heap.size w wc) ∧ Aside0 (MapSet Try.prog 3 4 mb wc x3_2))
         case first =>
          have H:=HC13.out;clear HC13
          by_cases c14 : x26_2 < (l0_0.length : Int)
          ·rw [if_pos c14] at H;have c14b0 : decide (x26_2 < (l0_0.length : Int)) = true:=decide_eq_true c14;clear c14
           (first | rw [c14b0] | (simp only [i64_w,i32_w];rw [c14b0]) | skip)
           replace H:=Option.bind_eq_some_iff.mp H;obtain ⟨t106,A150,H⟩ := H;replace H : (if t106 = true then (impl_IsValidGate.j2 k2 x3_2 (rd_L1 l0_1 x26_2) l0_1 (l0_1.length : Int) x26_2 (decide (((rd_L1 l0_1 x26_2).length : Int) > (rd l0_0 x26_2))) l0_0 l0_1) else (impl_IsValidGate.j2 k2 x3_2 (rd_L1 l0_1 x26_2) l0_1 (l0_1.length : Int) x26_2 true l0_0 l0_1)) = some r:=H;have A15:=am_ A150;clear A150
           by_cases c16 : t106 = true
           ·subst c16
            have H1 : (impl_IsValidGate.j2 k2 x3_2 (rd_L1 l0_1 x26_2) l0_1 (l0_1.length : Int) x26_2 (decide (((rd_L1 l0_1 x26_2).length : Int) > (rd l0_0 x26_2))) l0_0 l0_1) = some r:=by rw [if_pos rfl] at H;exact H
            clear H;have H:=H1;clear H1;have H':=am_ H;clear H;have hcz17_0:=c2_0 BK101.out;have hcz17_1:=c2_1 BK101.out;have hfz17_0:=blk_frozen BK101.out 0;have hfz17_1:=blk_frozen BK101.out 1;have p105 : 0 ≤ (x26_2 : Int):=of_decide_eq_true (by first | (with_reducible assumption) | assumption);have q105 : x26_2 < (l0_0.length : Int):=of_decide_eq_true (by first | (with_reducible assumption) | assumption);obtain ⟨ad105,e105,hx105_0⟩ := Kd.at_int HR0_0.out x26_2 p105 q105;cases e105;replace hx105_0:=(HB.out.cell (World.block_lt_of_cell? w _ hx105_0)).trans hx105_0;replace p105:=eq_true p105;replace q105:=eq_true q105
            go_wp2_with (first | ((with_reducible refine gate_callee (f:=53) rfl ?_);refine goesL_ (some 36) rfl rfl Try.func53 (by kernel_rfl) rfl #[.int .i64 (rd l0_0 x26_2), .int .i64 0, .int .i64 6] rfl (by (try simp only [List.map_toArray,List.map_cons,List.map_nil]);first | done | rfl | (simp only [List.length_drop,List.length_take];rfl)) ?_;(with_reducible refine (impl_within.calls (rd l0_0 x26_2) 0 6 true _ A15.out).mono ?_);rintro e w' ⟨rfl,⟨nd,rfl⟩⟩;refine ⟨_,rfl, ?_⟩;have p107 : 0 ≤ (x26_2 : Int):=of_decide_eq_true (by first | (with_reducible assumption) | assumption);have q107 : x26_2 < (l0_0.length : Int):=of_decide_eq_true (by first | (with_reducible assumption) | assumption);obtain ⟨ad107,e107,hx107_0⟩ := Kd.at_int HR0_0.out x26_2 p107 q107;obtain rfl : ad105 = ad107:=(by injection e107);replace hx107_0:=(HB.out.cell (World.block_lt_of_cell? w _ hx107_0)).trans hx107_0;replace p107:=eq_true p107;replace q107:=eq_true q107))
            go_meet
            case rel => exact ⟨_,(decide (((rd_L1 l0_1 x26_2).length : Int) > (rd l0_0 x26_2))),(by first | rfl | (simp;done) | (simp [*];done)),H',⟨by have:=HJ1.out;have:=HK2.out;first | omega | exact Nat.le_refl _⟩,⟨by (with_reducible repeat (first | refine blk_drewN ?_ _ | refine blk_drew ?_ | refine blk_alloc ?_ _));exact BK101.out⟩,⟨by repeat (first | (with_reducible first | exact HB.out | apply below_alloc | apply pw_below_drewN | apply below_drew1 | refine below_set ?_ GE101.out) | exact HB.out)⟩,⟨MapSet_below HM.out (by repeat (first | exact Below.refl _ _ | apply pw_below_drewN | apply below_drew1))⟩⟩
           ·replace c16:=Bool.eq_false_iff.mpr c16;subst c16
            have H1 : (impl_IsValidGate.j2 k2 x3_2 (rd_L1 l0_1 x26_2) l0_1 (l0_1.length : Int) x26_2 true l0_0 l0_1) = some r:=by rw [if_neg (show ¬ (false = true) by decide)] at H;exact H
            clear H;have H:=H1;clear H1;have H':=am_ H;clear H;have hcz18_0:=c2_0 BK101.out;have hcz18_1:=c2_1 BK101.out;have hfz18_0:=blk_frozen BK101.out 0;have hfz18_1:=blk_frozen BK101.out 1;have p105 : 0 ≤ (x26_2 : Int):=of_decide_eq_true (by first | (with_reducible assumption) | assumption);have q105 : x26_2 < (l0_0.length : Int):=of_decide_eq_true (by first | (with_reducible assumption) | assumption);obtain ⟨ad105,e105,hx105_0⟩ := Kd.at_int HR0_0.out x26_2 p105 q105;cases e105;replace hx105_0:=(HB.out.cell (World.block_lt_of_cell? w _ hx105_0)).trans hx105_0;replace p105:=eq_true p105;replace q105:=eq_true q105
            go_wp2_with (first | ((with_reducible refine gate_callee (f:=53) rfl ?_);refine goesL_ (some 36) rfl rfl Try.func53 (by kernel_rfl) rfl #[.int .i64 (rd l0_0 x26_2), .int .i64 0, .int .i64 6] rfl (by (try simp only [List.map_toArray,List.map_cons,List.map_nil]);first | done | rfl | (simp only [List.length_drop,List.length_take];rfl)) ?_;(with_reducible refine (impl_within.calls (rd l0_0 x26_2) 0 6 false _ A15.out).mono ?_);rintro e w' ⟨rfl,⟨nd,rfl⟩⟩;refine ⟨_,rfl, ?_⟩))
            go_meet
            case rel => exact ⟨_,(true),(by first | rfl | (simp;done) | (simp [*];done)),H',⟨by have:=HJ1.out;have:=HK2.out;first | omega | exact Nat.le_refl _⟩,⟨by (with_reducible repeat (first | refine blk_drewN ?_ _ | refine blk_drew ?_ | refine blk_alloc ?_ _));exact BK101.out⟩,⟨by repeat (first | (with_reducible first | exact HB.out | apply below_alloc | apply pw_below_drewN | apply below_drew1 | refine below_set ?_ GE101.out) | exact HB.out)⟩,⟨MapSet_below HM.out (by repeat (first | exact Below.refl _ _ | apply pw_below_drewN | apply below_drew1))⟩⟩
          ·rw [if_neg c14] at H
           exact absurd H (by simp)
         case rest =>
          clear HC13;(try clear c1);(try clear p1);(try clear q1);(try clear hx1);(try clear p2);(try clear c5);(try clear c8);(try clear c10);(try clear c10b0);(try clear p10);(try clear q10);(try clear hx10);(try clear c11);(try clear c11b0);(try clear c12);(try clear c12b0);(try clear c14);(try clear c14b0);(try clear c15);(try clear c16);(try clear hcz17_0);(try clear hcz17_1);(try clear hcz18_0);(try clear hcz18_1);(try clear hcz6_0);(try clear hcz6_1);(try clear hcz7_0);(try clear hcz7_1);(try clear hcz9_0);(try clear hcz9_1);(try clear hfz17_0);(try clear hfz17_1);(try clear hfz18_0);(try clear hfz18_1);(try clear hfz6_0);(try clear hfz6_1);(try clear hfz7_0);(try clear hfz7_1);(try clear hfz9_0);(try clear hfz9_1);(try clear hx104_0);(try clear hx105_0);(try clear hx107_0);(try clear p104);(try clear p105);(try clear p107);(try clear p2);(try clear q104);(try clear q105);(try clear q107);obtain ⟨kq,x47_12,rfl,HA,HJ12,BK101,HB,HM⟩ := hcut
          cases kq with
          | zero => exact absurd HA.out (by simp [impl_IsValidGate.j2])
          | succ kj12 =>
           have H:=HA.out;clear HA;simp only [impl_IsValidGate.j2] at H
           by_cases c19 : x47_12 = true
           ·subst c19
            have H1 : (some false) = some r:=by rw [if_pos rfl] at H;exact H
            clear H;have H:=H1;clear H1;obtain rfl:=Option.some.inj H
            go_wp2
            go_ret
            exact ⟨by first | rfl | (simp [errW_none,errW_some] <;> rfl) | (simp [*,errW_none,errW_some] <;> rfl),by repeat (first | (with_reducible first | exact HB.out | apply below_alloc | apply pw_below_drewN | apply below_drew1 | refine below_set ?_ GE101.out) | exact HB.out)⟩
           ·replace c19:=Bool.eq_false_iff.mpr c19;subst c19
            have H1 : (impl_IsValidGate.l1 kj12 x3_2 (rd_L1 l0_1 x26_2) l0_1 (l0_1.length : Int) x26_2 (rd_L1 l0_1 x26_2) ((rd_L1 l0_1 x26_2).length : Int) 0 l0_0 l0_1) = some r:=by rw [if_neg (show ¬ (false = true) by decide)] at H;exact H
            clear H;have H:=H1;clear H1;have H':=am_ H;clear H
            go_wp2
            go_loopg [50] kj12 (fun kq v50 w' => ∃ (x3_4 : List Int) (x50_4 : Int),v50 = .int .i64 x50_4 ∧ Aside0 (impl_IsValidGate.l1 kq x3_4 (rd_L1 l0_1 x26_2) l0_1 (l0_1.length : Int) x26_2 (rd_L1 l0_1 x26_2) ((rd_L1 l0_1 x26_2).length : Int) x50_4 l0_0 l0_1 = some r) ∧ Aside0 (kq ≤ kj12) ∧ Aside0 (w'.heap[gb101]? = some (.cells #[(.slice A0_0 l0_0.length c0_0),(.slice (some ad104) l0_1.length c0_1)] 27 (0,0))) ∧ Aside0 (Below w.heap.size w w') ∧ Aside0 (MapSet Try.prog 3 4 mb w' x3_4))
            case atStart => exact ⟨(x3_2),(0),(by first | rfl | (simp;done) | (simp [*];done)),H',⟨Nat.le_refl _⟩,⟨by (with_reducible repeat (first | refine blk_drewN ?_ _ | refine blk_drew ?_ | refine blk_alloc ?_ _));exact BK101.out⟩,⟨by repeat (first | (with_reducible first | exact HB.out | apply below_alloc | apply pw_below_drewN | apply below_drew1 | refine below_set ?_ GE101.out) | exact HB.out)⟩,⟨MapSet_below HM.out (by repeat (first | exact Below.refl _ _ | apply pw_below_drewN | apply below_drew1))⟩⟩
            case round =>
             clear H';(try clear c1);(try clear p1);(try clear q1);(try clear hx1);(try clear p2);(try clear c5);(try clear c8);(try clear c10);(try clear c10b0);(try clear p10);(try clear q10);(try clear hx10);(try clear c11);(try clear c11b0);(try clear c12);(try clear c12b0);(try clear c14);(try clear c14b0);(try clear c15);(try clear c16);(try clear c19);(try clear hcz17_0);(try clear hcz17_1);(try clear hcz18_0);(try clear hcz18_1);(try clear hcz6_0);(try clear hcz6_1);(try clear hcz7_0);(try clear hcz7_1);(try clear hcz9_0);(try clear hcz9_1);(try clear hfz17_0);(try clear hfz17_1);(try clear hfz18_0);(try clear hfz18_1);(try clear hfz6_0);(try clear hfz6_1);(try clear hfz7_0);(try clear hfz7_1);(try clear hfz9_0);(try clear hfz9_1);(try clear hx104_0);(try clear hx105_0);(try clear hx107_0);(try clear p1);(try clear p10);(try clear p104);(try clear p105);(try clear p107);(try clear p2);(try clear q1);(try clear q10);(try clear q104);(try clear q105);(try clear q107);obtain ⟨x3_4,x50_4,rfl,HA,HK4,BK101,HB,HM⟩ := hrel
             cases gk with
             | zero => exact absurd HA.out (by simp [impl_IsValidGate.l1])
             | succ k4 =>
              have H:=HA.out;clear HA;simp only [impl_IsValidGate.l1] at H
              by_cases c20 : x50_4 < ((rd_L1 l0_1 x26_2).length : Int)
              ·rw [if_pos c20] at H;have c20b0 : decide (x50_4 < ((rd_L1 l0_1 x26_2).length : Int)) = true:=decide_eq_true c20;clear c20
               by_cases c21 : 0 ≤ x50_4
               ·rw [if_pos c21] at H;have c21b0 : decide (0 ≤ x50_4) = true:=decide_eq_true c21;clear c21
                by_cases c22 : x50_4 < ((rd_L1 l0_1 x26_2).length : Int)
                ·rw [if_pos c22] at H;have c22b0 : decide (x50_4 < ((rd_L1 l0_1 x26_2).length : Int)) = true:=decide_eq_true c22;clear c22;replace H:=Option.bind_eq_some_iff.mp H;obtain ⟨t109,A230,H⟩ := H;replace H : (if t109 = true then ((klook.f x3_4 (rd (rd_L1 l0_1 x26_2) x50_4)).bind fun t110 => (if t110 = true then (some false) else (if x50_4 > 0 then (if 0 ≤ (wrap64 (x50_4 - 1)) then (if (wrap64 (x50_4 - 1)) < ((rd_L1 l0_1 x26_2).length : Int) then (if (rd (rd_L1 l0_1 x26_2) x50_4) ≤ (rd (rd_L1 l0_1 x26_2) (wrap64 (x50_4 - 1))) then (some false) else ((kput.f x3_4 (rd (rd_L1 l0_1 x26_2) x50_4)).bind fun t112 => (impl_IsValidGate.l1 k4 t112 (rd_L1 l0_1 x26_2) l0_1 (l0_1.length : Int) x26_2 (rd_L1 l0_1 x26_2) ((rd_L1 l0_1 x26_2).length : Int) (wrap64 (x50_4 + 1)) l0_0 l0_1))) else (none)) else (none)) else ((kput.f x3_4 (rd (rd_L1 l0_1 x26_2) x50_4)).bind fun t113 => (impl_IsValidGate.l1 k4 t113 (rd_L1 l0_1 x26_2) l0_1 (l0_1.length : Int) x26_2 (rd_L1 l0_1 x26_2) ((rd_L1 l0_1 x26_2).length : Int) (wrap64 (x50_4 + 1)) l0_0 l0_1))))) else (some false)) = some r:=H;have A23:=am_ A230;clear A230
                 by_cases c24 : t109 = true
                 ·subst c24
                  have H1 : ((klook.f x3_4 (rd (rd_L1 l0_1 x26_2) x50_4)).bind fun t110 => (if t110 = true then (some false) else (if x50_4 > 0 then (if 0 ≤ (wrap64 (x50_4 - 1)) then (if (wrap64 (x50_4 - 1)) < ((rd_L1 l0_1 x26_2).length : Int) then (if (rd (rd_L1 l0_1 x26_2) x50_4) ≤ (rd (rd_L1 l0_1 x26_2) (wrap64 (x50_4 - 1))) then (some false) else ((kput.f x3_4 (rd (rd_L1 l0_1 x26_2) x50_4)).bind fun t112 => (impl_IsValidGate.l1 k4 t112 (rd_L1 l0_1 x26_2) l0_1 (l0_1.length : Int) x26_2 (rd_L1 l0_1 x26_2) ((rd_L1 l0_1 x26_2).length : Int) (wrap64 (x50_4 + 1)) l0_0 l0_1))) else (none)) else (none)) else ((kput.f x3_4 (rd (rd_L1 l0_1 x26_2) x50_4)).bind fun t113 => (impl_IsValidGate.l1 k4 t113 (rd_L1 l0_1 x26_2) l0_1 (l0_1.length : Int) x26_2 (rd_L1 l0_1 x26_2) ((rd_L1 l0_1 x26_2).length : Int) (wrap64 (x50_4 + 1)) l0_0 l0_1))))) = some r:=by rw [if_pos rfl] at H;exact H
                  clear H;have H:=H1;clear H1;replace H:=Option.bind_eq_some_iff.mp H;obtain ⟨t110,A250,H⟩ := H;replace H : (if t110 = true then (some false) else (if x50_4 > 0 then (if 0 ≤ (wrap64 (x50_4 - 1)) then (if (wrap64 (x50_4 - 1)) < ((rd_L1 l0_1 x26_2).length : Int) then (if (rd (rd_L1 l0_1 x26_2) x50_4) ≤ (rd (rd_L1 l0_1 x26_2) (wrap64 (x50_4 - 1))) then (some false) else ((kput.f x3_4 (rd (rd_L1 l0_1 x26_2) x50_4)).bind fun t112 => (impl_IsValidGate.l1 k4 t112 (rd_L1 l0_1 x26_2) l0_1 (l0_1.length : Int) x26_2 (rd_L1 l0_1 x26_2) ((rd_L1 l0_1 x26_2).length : Int) (wrap64 (x50_4 + 1)) l0_0 l0_1))) else (none)) else (none)) else ((kput.f x3_4 (rd (rd_L1 l0_1 x26_2) x50_4)).bind fun t113 => (impl_IsValidGate.l1 k4 t113 (rd_L1 l0_1 x26_2) l0_1 (l0_1.length : Int) x26_2 (rd_L1 l0_1 x26_2) ((rd_L1 l0_1 x26_2).length : Int) (wrap64 (x50_4 + 1)) l0_0 l0_1)))) = some r:=H;have A25:=am_ A250;clear A250
                  by_cases c26 : t110 = true
                  ·subst c26
                   have H1 : (some false) = some r:=by rw [if_pos rfl] at H;exact H
                   clear H;have H:=H1;clear H1;obtain rfl:=Option.some.inj H;have p108 : 0 ≤ (x50_4 : Int):=of_decide_eq_true (by first | (with_reducible assumption) | assumption);have q108 : x50_4 < ((rd_L1 l0_1 x26_2).length : Int):=of_decide_eq_true (by first | (with_reducible assumption) | assumption);obtain ⟨ad108,e108,hx108_0⟩ := Kd.at_int HR104_0.out x50_4 p108 q108;cases e108;replace hx108_0:=(HB.out.cell (World.block_lt_of_cell? w _ hx108_0)).trans hx108_0;replace p108:=eq_true p108;replace q108:=eq_true q108
                   go_wp2_with (first | ((with_reducible refine gate_callee (f:=53) rfl ?_);refine goesL_ (some 56) rfl rfl Try.func53 (by kernel_rfl) rfl #[.int .i64 (rd (rd_L1 l0_1 x26_2) x50_4), .int .i64 1, .int .i64 99] rfl (by (try simp only [List.map_toArray,List.map_cons,List.map_nil]);first | done | rfl | (simp only [List.length_drop,List.length_take];rfl)) ?_;(with_reducible refine (impl_within.calls (rd (rd_L1 l0_1 x26_2) x50_4) 1 99 true _ A23.out).mono ?_);rintro e w' ⟨rfl,⟨nd,rfl⟩⟩;refine ⟨_,rfl, ?_⟩) | (at_lookup;(try (refine gate_guard (by rfl) ?_;dsimp only));refine mapSet_look (some 61) rfl rfl (.tmp 59) (.tmp 60) 70 3 4 rfl Try.underlying70 Try.underlying3 Try.underlying4 (fun _ => by kernel_rfl) (MapSet_below HM.out (by repeat (first | exact Below.refl _ _ | apply pw_below_drewN | apply below_drew1))) rfl (rd (rd_L1 l0_1 x26_2) x50_4) rfl _ (klook.of A25.out) ?_))
                   go_ret
                   exact ⟨by first | rfl | (simp [errW_none,errW_some] <;> rfl) | (simp [*,errW_none,errW_some] <;> rfl),by repeat (first | (with_reducible first | exact HB.out | apply below_alloc | apply pw_below_drewN | apply below_drew1 | refine below_set ?_ GE101.out) | exact HB.out)⟩
                  ·replace c26:=Bool.eq_false_iff.mpr c26;subst c26
                   have H1 : (if x50_4 > 0 then (if 0 ≤ (wrap64 (x50_4 - 1)) then (if (wrap64 (x50_4 - 1)) < ((rd_L1 l0_1 x26_2).length : Int) then (if (rd (rd_L1 l0_1 x26_2) x50_4) ≤ (rd (rd_L1 l0_1 x26_2) (wrap64 (x50_4 - 1))) then (some false) else ((kput.f x3_4 (rd (rd_L1 l0_1 x26_2) x50_4)).bind fun t112 => (impl_IsValidGate.l1 k4 t112 (rd_L1 l0_1 x26_2) l0_1 (l0_1.length : Int) x26_2 (rd_L1 l0_1 x26_2) ((rd_L1 l0_1 x26_2).length : Int) (wrap64 (x50_4 + 1)) l0_0 l0_1))) else (none)) else (none)) else ((kput.f x3_4 (rd (rd_L1 l0_1 x26_2) x50_4)).bind fun t113 => (impl_IsValidGate.l1 k4 t113 (rd_L1 l0_1 x26_2) l0_1 (l0_1.length : Int) x26_2 (rd_L1 l0_1 x26_2) ((rd_L1 l0_1 x26_2).length : Int) (wrap64 (x50_4 + 1)) l0_0 l0_1))) = some r:=by rw [if_neg (show ¬ (false = true) by decide)] at H;exact H
                   clear H;have H:=H1;clear H1
                   by_cases c27 : x50_4 > 0
                   ·rw [if_pos c27] at H;have c27b0 : decide (0 < x50_4) = true:=decide_eq_true c27;clear c27;obtain ⟨ji28,hji28⟩ : ∃ j_ : Int,(wrap64 (x50_4 - 1)) = j_:=⟨_,rfl⟩
                    replace H : (if 0 ≤ (ji28) then (if (ji28) < ((rd_L1 l0_1 x26_2).length : Int) then (if (rd (rd_L1 l0_1 x26_2) x50_4) ≤ (rd (rd_L1 l0_1 x26_2) (ji28)) then (some false) else ((kput.f x3_4 (rd (rd_L1 l0_1 x26_2) x50_4)).bind fun t112 => (impl_IsValidGate.l1 k4 t112 (rd_L1 l0_1 x26_2) l0_1 (l0_1.length : Int) x26_2 (rd_L1 l0_1 x26_2) ((rd_L1 l0_1 x26_2).length : Int) (wrap64 (x50_4 + 1)) l0_0 l0_1))) else (none)) else (none)) = some r:=by first | (rw [hji28] at H;exact H) | (simp only [hji28] at H ⊢;exact H)
                    (try rw [hji28] at A23);(try rw [hji28] at A25);have hji28w : (IntKind.i64.wrap (x50_4 - 1)) = ji28:=(i64_w _).trans hji28
                    by_cases c29 : 0 ≤ (ji28)
                    ·rw [if_pos c29] at H;have c29b0 : decide (0 ≤ (ji28)) = true:=decide_eq_true c29;clear c29
                     by_cases c30 : (ji28) < ((rd_L1 l0_1 x26_2).length : Int)
                     ·rw [if_pos c30] at H;have c30b0 : decide ((ji28) < ((rd_L1 l0_1 x26_2).length : Int)) = true:=decide_eq_true c30;clear c30
                      by_cases c31 : (rd (rd_L1 l0_1 x26_2) x50_4) ≤ (rd (rd_L1 l0_1 x26_2) (ji28))
                      ·rw [if_pos c31] at H;have c31b0 : decide ((rd (rd_L1 l0_1 x26_2) x50_4) ≤ (rd (rd_L1 l0_1 x26_2) (ji28))) = true:=decide_eq_true c31;clear c31;obtain rfl:=Option.some.inj H;have p108 : 0 ≤ (x50_4 : Int):=of_decide_eq_true (by first | (with_reducible assumption) | assumption);have q108 : x50_4 < ((rd_L1 l0_1 x26_2).length : Int):=of_decide_eq_true (by first | (with_reducible assumption) | assumption);obtain ⟨ad108,e108,hx108_0⟩ := Kd.at_int HR104_0.out x50_4 p108 q108;cases e108;replace hx108_0:=(HB.out.cell (World.block_lt_of_cell? w _ hx108_0)).trans hx108_0;replace p108:=eq_true p108;replace q108:=eq_true q108
                       go_wp2_with (first | ((with_reducible refine gate_callee (f:=53) rfl ?_);refine goesL_ (some 56) rfl rfl Try.func53 (by kernel_rfl) rfl #[.int .i64 (rd (rd_L1 l0_1 x26_2) x50_4), .int .i64 1, .int .i64 99] rfl (by (try simp only [List.map_toArray,List.map_cons,List.map_nil]);first | done | rfl | (simp only [List.length_drop,List.length_take];rfl)) ?_;(with_reducible refine (impl_within.calls (rd (rd_L1 l0_1 x26_2) x50_4) 1 99 true _ A23.out).mono ?_);rintro e w' ⟨rfl,⟨nd,rfl⟩⟩;refine ⟨_,rfl, ?_⟩) | (at_lookup;(try (refine gate_guard (by rfl) ?_;dsimp only));refine mapSet_look (some 61) rfl rfl (.tmp 59) (.tmp 60) 70 3 4 rfl Try.underlying70 Try.underlying3 Try.underlying4 (fun _ => by kernel_rfl) (MapSet_below HM.out (by repeat (first | exact Below.refl _ _ | apply pw_below_drewN | apply below_drew1))) rfl (rd (rd_L1 l0_1 x26_2) x50_4) rfl _ (klook.of A25.out) ?_;have p111 : 0 ≤ ((ji28) : Int):=of_decide_eq_true (by first | (with_reducible assumption) | assumption);have q111 : (ji28) < ((rd_L1 l0_1 x26_2).length : Int):=of_decide_eq_true (by first | (with_reducible assumption) | assumption);obtain ⟨ad111,e111,hx111_0⟩ := Kd.at_int HR104_0.out (ji28) p111 q111;obtain rfl : ad108 = ad111:=(by injection e111);replace hx111_0:=(HB.out.cell (World.block_lt_of_cell? w _ hx111_0)).trans hx111_0;replace p111:=eq_true p111;replace q111:=eq_true q111))
                       go_ret
                       exact ⟨by first | rfl | (simp [errW_none,errW_some] <;> rfl) | (simp only [← hji28];first | rfl | (simp [errW_none,errW_some] <;> rfl)) | (simp [*,errW_none,errW_some] <;> rfl),by repeat (first | (with_reducible first | exact HB.out | apply below_alloc | apply pw_below_drewN | apply below_drew1 | refine below_set ?_ GE101.out) | exact HB.out)⟩
                      ·rw [if_neg c31] at H;have c31b0 : decide ((rd (rd_L1 l0_1 x26_2) x50_4) ≤ (rd (rd_L1 l0_1 x26_2) (ji28))) = false:=decide_eq_false c31;clear c31;replace H:=Option.bind_eq_some_iff.mp H;obtain ⟨t112,A320,H⟩ := H;replace H : (impl_IsValidGate.l1 k4 t112 (rd_L1 l0_1 x26_2) l0_1 (l0_1.length : Int) x26_2 (rd_L1 l0_1 x26_2) ((rd_L1 l0_1 x26_2).length : Int) (wrap64 (x50_4 + 1)) l0_0 l0_1) = some r:=H;have A32:=am_ A320;clear A320;have H':=am_ H;clear H;have p108 : 0 ≤ (x50_4 : Int):=of_decide_eq_true (by first | (with_reducible assumption) | assumption);have q108 : x50_4 < ((rd_L1 l0_1 x26_2).length : Int):=of_decide_eq_true (by first | (with_reducible assumption) | assumption);obtain ⟨ad108,e108,hx108_0⟩ := Kd.at_int HR104_0.out x50_4 p108 q108;cases e108;replace hx108_0:=(HB.out.cell (World.block_lt_of_cell? w _ hx108_0)).trans hx108_0;replace p108:=eq_true p108;replace q108:=eq_true q108
                       go_wp2_with (first | ((with_reducible refine gate_callee (f:=53) rfl ?_);refine goesL_ (some 56) rfl rfl Try.func53 (by kernel_rfl) rfl #[.int .i64 (rd (rd_L1 l0_1 x26_2) x50_4), .int .i64 1, .int .i64 99] rfl (by (try simp only [List.map_toArray,List.map_cons,List.map_nil]);first | done | rfl | (simp only [List.length_drop,List.length_take];rfl)) ?_;(with_reducible refine (impl_within.calls (rd (rd_L1 l0_1 x26_2) x50_4) 1 99 true _ A23.out).mono ?_);rintro e w' ⟨rfl,⟨nd,rfl⟩⟩;refine ⟨_,rfl, ?_⟩) | (at_lookup;(try (refine gate_guard (by rfl) ?_;dsimp only));refine mapSet_look (some 61) rfl rfl (.tmp 59) (.tmp 60) 70 3 4 rfl Try.underlying70 Try.underlying3 Try.underlying4 (fun _ => by kernel_rfl) (MapSet_below HM.out (by repeat (first | exact Below.refl _ _ | apply pw_below_drewN | apply below_drew1))) rfl (rd (rd_L1 l0_1 x26_2) x50_4) rfl _ (klook.of A25.out) ?_;have p111 : 0 ≤ ((ji28) : Int):=of_decide_eq_true (by first | (with_reducible assumption) | assumption);have q111 : (ji28) < ((rd_L1 l0_1 x26_2).length : Int):=of_decide_eq_true (by first | (with_reducible assumption) | assumption);obtain ⟨ad111,e111,hx111_0⟩ := Kd.at_int HR104_0.out (ji28) p111 q111;obtain rfl : ad108 = ad111:=(by injection e111);replace hx111_0:=(HB.out.cell (World.block_lt_of_cell? w _ hx111_0)).trans hx111_0;replace p111:=eq_true p111;replace q111:=eq_true q111) | (at_mapUpdate;(try (refine gate_guard (by rfl) ?_;dsimp only));refine mapSet_put none rfl rfl (.tmp 76) (.tmp 77) (.const (.bool true)) 70 3 4 rfl Try.underlying70 Try.underlying3 Try.underlying4 (MapSet_below HM.out (by repeat (first | exact Below.refl _ _ | apply pw_below_drewN | apply below_drew1))) rfl (rd (rd_L1 l0_1 x26_2) x50_4) rfl rfl (kput.of A32.out) ?_;intro wu hMu hGu;have HMn:=am_ hMu;have HBn:=am_ (Below.grown (B:=w.heap.size) (a:=w) (by repeat (first | (with_reducible first | exact HB.out | apply below_alloc | apply pw_below_drewN | apply below_drew1) | exact HB.out)) hGu (Below.size (by repeat (first | (with_reducible first | exact HB.out | apply below_alloc | apply pw_below_drewN | apply below_drew1) | exact HB.out))) (fun j hj => by cases hj;exact HGE.out));have BKn:=am_ (blk_grown (g:=gb101) (o:=(.cells #[(.slice A0_0 l0_0.length c0_0),(.slice (some ad104) l0_1.length c0_1)] 27 (0,0))) (by (with_reducible repeat (first | refine blk_drewN ?_ _ | refine blk_drew ?_ | refine blk_alloc ?_ _));exact BK101.out) hGu (fun e_ => by have h_:=Option.some.inj e_;have g_:=HGB.out;omega));clear hMu hGu HM HB BK101;have HM:=HMn;have HB:=HBn;have BK101:=BKn;clear HMn HBn BKn))
                       go_roundg k4
                       case measure => have:=HJ1.out;have:=HK2.out;have:=HJ12.out;have:=HK4.out;omega
                       case rel => exact ⟨(t112),(wrap64 (x50_4 + 1)),(by first | rfl | (simp;done) | (simp [*];done)),H',⟨by have:=HJ1.out;have:=HK2.out;have:=HJ12.out;have:=HK4.out;omega⟩,⟨by (with_reducible repeat (first | refine blk_drewN ?_ _ | refine blk_drew ?_ | refine blk_alloc ?_ _));exact BK101.out⟩,⟨by repeat (first | (with_reducible first | exact HB.out | apply below_alloc | apply pw_below_drewN | apply below_drew1 | refine below_set ?_ GE101.out) | exact HB.out)⟩,⟨MapSet_below HM.out (by repeat (first | exact Below.refl _ _ | apply pw_below_drewN | apply below_drew1))⟩⟩
                     ·rw [if_neg c30] at H
                      exact absurd H (by simp)
                    ·rw [if_neg c29] at H
                     exact absurd H (by simp)
                   ·rw [if_neg c27] at H;have c27b0 : decide (0 < x50_4) = false:=decide_eq_false c27;clear c27;replace H:=Option.bind_eq_some_iff.mp H;obtain ⟨t113,A330,H⟩ := H;replace H : (impl_IsValidGate.l1 k4 t113 (rd_L1 l0_1 x26_2) l0_1 (l0_1.length : Int) x26_2 (rd_L1 l0_1 x26_2) ((rd_L1 l0_1 x26_2).length : Int) (wrap64 (x50_4 + 1)) l0_0 l0_1) = some r:=H;have A33:=am_ A330;clear A330;have H':=am_ H;clear H;have p108 : 0 ≤ (x50_4 : Int):=of_decide_eq_true (by first | (with_reducible assumption) | assumption);have q108 : x50_4 < ((rd_L1 l0_1 x26_2).length : Int):=of_decide_eq_true (by first | (with_reducible assumption) | assumption);obtain ⟨ad108,e108,hx108_0⟩ := Kd.at_int HR104_0.out x50_4 p108 q108;cases e108;replace hx108_0:=(HB.out.cell (World.block_lt_of_cell? w _ hx108_0)).trans hx108_0;replace p108:=eq_true p108;replace q108:=eq_true q108
                    go_wp2_with (first | ((with_reducible refine gate_callee (f:=53) rfl ?_);refine goesL_ (some 56) rfl rfl Try.func53 (by kernel_rfl) rfl #[.int .i64 (rd (rd_L1 l0_1 x26_2) x50_4), .int .i64 1, .int .i64 99] rfl (by (try simp only [List.map_toArray,List.map_cons,List.map_nil]);first | done | rfl | (simp only [List.length_drop,List.length_take];rfl)) ?_;(with_reducible refine (impl_within.calls (rd (rd_L1 l0_1 x26_2) x50_4) 1 99 true _ A23.out).mono ?_);rintro e w' ⟨rfl,⟨nd,rfl⟩⟩;refine ⟨_,rfl, ?_⟩) | (at_lookup;(try (refine gate_guard (by rfl) ?_;dsimp only));refine mapSet_look (some 61) rfl rfl (.tmp 59) (.tmp 60) 70 3 4 rfl Try.underlying70 Try.underlying3 Try.underlying4 (fun _ => by kernel_rfl) (MapSet_below HM.out (by repeat (first | exact Below.refl _ _ | apply pw_below_drewN | apply below_drew1))) rfl (rd (rd_L1 l0_1 x26_2) x50_4) rfl _ (klook.of A25.out) ?_) | (at_mapUpdate;(try (refine gate_guard (by rfl) ?_;dsimp only));refine mapSet_put none rfl rfl (.tmp 76) (.tmp 77) (.const (.bool true)) 70 3 4 rfl Try.underlying70 Try.underlying3 Try.underlying4 (MapSet_below HM.out (by repeat (first | exact Below.refl _ _ | apply pw_below_drewN | apply below_drew1))) rfl (rd (rd_L1 l0_1 x26_2) x50_4) rfl rfl (kput.of A33.out) ?_;intro wu hMu hGu;have HMn:=am_ hMu;have HBn:=am_ (Below.grown (B:=w.heap.size) (a:=w) (by repeat (first | (with_reducible first | exact HB.out | apply below_alloc | apply pw_below_drewN | apply below_drew1) | exact HB.out)) hGu (Below.size (by repeat (first | (with_reducible first | exact HB.out | apply below_alloc | apply pw_below_drewN | apply below_drew1) | exact HB.out))) (fun j hj => by cases hj;exact HGE.out));have BKn:=am_ (blk_grown (g:=gb101) (o:=(.cells #[(.slice A0_0 l0_0.length c0_0),(.slice (some ad104) l0_1.length c0_1)] 27 (0,0))) (by (with_reducible repeat (first | refine blk_drewN ?_ _ | refine blk_drew ?_ | refine blk_alloc ?_ _));exact BK101.out) hGu (fun e_ => by have h_:=Option.some.inj e_;have g_:=HGB.out;omega));clear hMu hGu HM HB BK101;have HM:=HMn;have HB:=HBn;have BK101:=BKn;clear HMn HBn BKn))
                    go_roundg k4
                    case measure => have:=HJ1.out;have:=HK2.out;have:=HJ12.out;have:=HK4.out;omega
                    case rel => exact ⟨(t113),(wrap64 (x50_4 + 1)),(by first | rfl | (simp;done) | (simp [*];done)),H',⟨by have:=HJ1.out;have:=HK2.out;have:=HJ12.out;have:=HK4.out;omega⟩,⟨by (with_reducible repeat (first | refine blk_drewN ?_ _ | refine blk_drew ?_ | refine blk_alloc ?_ _));exact BK101.out⟩,⟨by repeat (first | (with_reducible first | exact HB.out | apply below_alloc | apply pw_below_drewN | apply below_drew1 | refine below_set ?_ GE101.out) | exact HB.out)⟩,⟨MapSet_below HM.out (by repeat (first | exact Below.refl _ _ | apply pw_below_drewN | apply below_drew1))⟩⟩
                 ·replace c24:=Bool.eq_false_iff.mpr c24;subst c24
                  have H1 : (some false) = some r:=by rw [if_neg (show ¬ (false = true) by decide)] at H;exact H
                  clear H;have H:=H1;clear H1;obtain rfl:=Option.some.inj H;have p108 : 0 ≤ (x50_4 : Int):=of_decide_eq_true (by first | (with_reducible assumption) | assumption);have q108 : x50_4 < ((rd_L1 l0_1 x26_2).length : Int):=of_decide_eq_true (by first | (with_reducible assumption) | assumption);obtain ⟨ad108,e108,hx108_0⟩ := Kd.at_int HR104_0.out x50_4 p108 q108;cases e108;replace hx108_0:=(HB.out.cell (World.block_lt_of_cell? w _ hx108_0)).trans hx108_0;replace p108:=eq_true p108;replace q108:=eq_true q108
                  go_wp2_with (first | ((with_reducible refine gate_callee (f:=53) rfl ?_);refine goesL_ (some 56) rfl rfl Try.func53 (by kernel_rfl) rfl #[.int .i64 (rd (rd_L1 l0_1 x26_2) x50_4), .int .i64 1, .int .i64 99] rfl (by (try simp only [List.map_toArray,List.map_cons,List.map_nil]);first | done | rfl | (simp only [List.length_drop,List.length_take];rfl)) ?_;(with_reducible refine (impl_within.calls (rd (rd_L1 l0_1 x26_2) x50_4) 1 99 false _ A23.out).mono ?_);rintro e w' ⟨rfl,⟨nd,rfl⟩⟩;refine ⟨_,rfl, ?_⟩))
                  go_ret
                  exact ⟨by first | rfl | (simp [errW_none,errW_some] <;> rfl) | (simp [*,errW_none,errW_some] <;> rfl),by repeat (first | (with_reducible first | exact HB.out | apply below_alloc | apply pw_below_drewN | apply below_drew1 | refine below_set ?_ GE101.out) | exact HB.out)⟩
                ·rw [if_neg c22] at H
                 exact absurd H (by simp)
               ·rw [if_neg c21] at H
                exact absurd H (by simp)
              ·rw [if_neg c20] at H;have c20b0 : decide (x50_4 < ((rd_L1 l0_1 x26_2).length : Int)) = false:=decide_eq_false c20;clear c20;have H':=am_ H;clear H
               go_wp2
               go_roundg k4
               case measure => have:=HJ1.out;have:=HK2.out;have:=HJ12.out;have:=HK4.out;omega
               case rel => exact ⟨(x3_4),(wrap64 (x26_2 + 1)),(by first | rfl | (simp;done) | (simp [*];done)),H',⟨by have:=HJ1.out;have:=HK2.out;have:=HJ12.out;have:=HK4.out;omega⟩,⟨by (with_reducible repeat (first | refine blk_drewN ?_ _ | refine blk_drew ?_ | refine blk_alloc ?_ _));exact BK101.out⟩,⟨by repeat (first | (with_reducible first | exact HB.out | apply below_alloc | apply pw_below_drewN | apply below_drew1 | refine below_set ?_ GE101.out) | exact HB.out)⟩,⟨MapSet_below HM.out (by repeat (first | exact Below.refl _ _ | apply pw_below_drewN | apply below_drew1))⟩⟩
        ·rw [if_neg c12] at H
         exact absurd H (by simp)
       ·rw [if_neg c11] at H
        exact absurd H (by simp)
      ·rw [if_neg c10] at H;have c10b0 : decide (x26_2 < (l0_1.length : Int)) = false:=decide_eq_false c10;clear c10;replace H:=Option.bind_eq_some_iff.mp H;obtain ⟨t103,A340,H⟩ := H;replace H : (some (decide (t103 ≤ 30))) = some r:=H;have A34:=am_ A340;clear A340;obtain rfl:=Option.some.inj H
       go_wp2_with (first | (refine mapSet_len (some 81) rfl rfl (.tmp 80) 70 3 4 rfl Try.underlying70 (MapSet_below HM.out (by repeat (first | exact Below.refl _ _ | apply pw_below_drewN | apply below_drew1))) rfl _ (klen.of A34.out) ?_))
       go_ret
       exact ⟨by first | rfl | (simp [errW_none,errW_some] <;> rfl) | (simp [*,errW_none,errW_some] <;> rfl),by repeat (first | (with_reducible first | exact HB.out | apply below_alloc | apply pw_below_drewN | apply below_drew1 | refine below_set ?_ GE101.out) | exact HB.out)⟩

/-! ### impl_isGateFor_1: function 75 -/
def impl_isGateFor_1.f (a0 : Int) (l1 : List Int) (l2 : List (List Int)) : Option (Bool):=(impl_within.f a0 0 (wrap64 ((l2.length : Int) - 1))).bind fun t114 => (some (!t114))
set_option maxHeartbeats 8000000 in
set_option maxRecDepth 100000 in
theorem impl_isGateFor_1.calls (a0 : Int) (A1 : Option Addr) (c1 : Nat) (l1 : List Int) (A2 : Option Addr) (c2 : Nat) (l2 : List (List Int)) {G1 : Nat} (r : Bool) (w : World) (hr1 : Kd.C (Kd.int .i64) w A1 l1.length l1) (hc1 : l1.length ≤ c1) (hr2 : Kd.C (Kd.slice 3 (Kd.int .i64)) w A2 l2.length l2) (hc2 : l2.length ≤ c2) (hg1 : w.cell? ⟨G1,0,none⟩ = some (.slice A1 l1.length c1)) (hg2 : w.cell? ⟨G1,1,none⟩ = some (.slice A2 l2.length c2)) (h : impl_isGateFor_1.f a0 l1 l2 = some r) :
  Calls Try.prog 75 #[.int .i64 a0, .pointer (some ⟨G1,0,none⟩)] w fun e w' => e = .returned (.bool r) ∧ Below w.heap.size w w':=by
 have HR1:=am_ hr1;have HC1:=am_ hc1;clear hr1 hc1;have HR2:=am_ hr2;have HC2:=am_ hc2;clear hr2 hc2;have HB:=am_ (Below.refl w.heap.size w);have H : ((impl_within.f a0 0 (wrap64 ((l2.length : Int) - 1))).bind fun t114 => (some (!t114))) = some r:=h;clear h;replace H:=Option.bind_eq_some_iff.mp H;obtain ⟨t114,A40,H⟩ := H;replace H : (some (!t114)) = some r:=H;have A4:=am_ A40;clear A40;obtain rfl:=Option.some.inj H
 go_enter Try.func75,Try.ntmps75
 go_wp2_with (first | ((with_reducible refine gate_callee (f:=53) rfl ?_);refine goesL_ (some 9) rfl rfl Try.func53 (by kernel_rfl) rfl #[.int .i64 a0, .int .i64 0, .int .i64 (wrap64 ((l2.length : Int) - 1))] rfl (by (try simp only [List.map_toArray,List.map_cons,List.map_nil]);first | done | rfl | (simp only [List.length_drop,List.length_take];rfl)) ?_;(with_reducible refine (impl_within.calls a0 0 (wrap64 ((l2.length : Int) - 1)) t114 _ A4.out).mono ?_);rintro e w' ⟨rfl,⟨nd,rfl⟩⟩;refine ⟨_,rfl, ?_⟩))
 go_ret
 exact ⟨by first | rfl | (simp [errW_none,errW_some] <;> rfl) | (simp [*,errW_none,errW_some] <;> rfl),by repeat (first | (with_reducible first | exact HB.out | apply below_alloc | apply pw_below_drewN | apply below_drew1) | exact HB.out)⟩

/-! ### slices_IndexFunc_int: function 87 -/
def slices_IndexFunc_int.l0 : Nat → List Int → Int → Int → List Int → List (List Int) → Option (Int)
 | 0,_,_,_,_,_ => none
 | k + 1,x0,x7,x8,x902000,x902001 => if x8 < x7 then (if 0 ≤ x8 then (if x8 < (x0.length : Int) then ((impl_isGateFor_1.f (rd x0 x8) x902000 x902001).bind fun t116 => (if t116 = true then (some x8) else (slices_IndexFunc_int.l0 k x0 x7 (wrap64 (x8 + 1)) x902000 x902001))) else (none)) else (none)) else (some (-1))
def slices_IndexFunc_int.f (k : Nat) (l0 : List Int) (l1_0 : List Int) (l1_1 : List (List Int)) : Option (Int):=slices_IndexFunc_int.l0 k l0 (l0.length : Int) 0 l1_0 l1_1
theorem slices_IndexFunc_int.mono_l : ∀ k,(∀ y0 y1 y2 y3 y4,LeO (slices_IndexFunc_int.l0 k y0 y1 y2 y3 y4) (slices_IndexFunc_int.l0 (k + 1) y0 y1 y2 y3 y4))
 | 0 => fun _ _ _ _ _ r h => by simp [slices_IndexFunc_int.l0] at h
 | k + 1 => by
  have ih0:=slices_IndexFunc_int.mono_l k
  ·intro y0 y1 y2 y3 y4
   unfold slices_IndexFunc_int.l0
   repeat' first
   | (with_reducible exact ih0 _ _ _ _ _)
   | (with_reducible exact LeO.refl _)
   | (with_reducible exact LeO.none _)
   | (with_reducible refine LeO.ite ?_ ?_)
   | (with_reducible refine LeO.bind ?_ (fun _ => ?_))
   | exact ih0 _ _ _ _ _
   | exact LeO.none _
   | refine LeO.ite ?_ ?_
   | refine LeO.bind ?_ (fun _ => ?_)
theorem slices_IndexFunc_int.mono : ∀ a0 a1 a2 k,LeO (slices_IndexFunc_int.f k a0 a1 a2) (slices_IndexFunc_int.f (k + 1) a0 a1 a2):=by
 intro a0 a1 a2 k;have ih0:=slices_IndexFunc_int.mono_l k
 unfold slices_IndexFunc_int.f
 repeat' first
   | (with_reducible exact ih0 _ _ _ _ _)
   | (with_reducible exact LeO.refl _)
   | (with_reducible exact LeO.none _)
   | (with_reducible refine LeO.ite ?_ ?_)
   | (with_reducible refine LeO.bind ?_ (fun _ => ?_))
   | exact ih0 _ _ _ _ _
   | exact LeO.none _
   | refine LeO.ite ?_ ?_
   | refine LeO.bind ?_ (fun _ => ?_)
set_option maxHeartbeats 8000000 in
set_option maxRecDepth 100000 in
theorem slices_IndexFunc_int.calls (k : Nat) (A0 : Option Addr) (c0 : Nat) (l0 : List Int) (A1_0 : Option Addr) (c1_0 : Nat) (l1_0 : List Int) (A1_1 : Option Addr) (c1_1 : Nat) (l1_1 : List (List Int)) {G1_0 : Nat} (r : Int) (w : World) (hr0 : Kd.C (Kd.int .i64) w A0 l0.length l0) (hc0 : l0.length ≤ c0) (hr1_0 : Kd.C (Kd.int .i64) w A1_0 l1_0.length l1_0) (hc1_0 : l1_0.length ≤ c1_0) (hr1_1 : Kd.C (Kd.slice 3 (Kd.int .i64)) w A1_1 l1_1.length l1_1) (hc1_1 : l1_1.length ≤ c1_1) (hg1_0 : w.cell? ⟨G1_0,0,none⟩ = some (.slice A1_0 l1_0.length c1_0)) (hg1_1 : w.cell? ⟨G1_0,1,none⟩ = some (.slice A1_1 l1_1.length c1_1)) (h : slices_IndexFunc_int.f k l0 l1_0 l1_1 = some r) :
  Calls Try.prog 87 #[.slice A0 l0.length c0,(.func (.func 75) #[] #[.pointer (some ⟨G1_0,0,none⟩)])] w fun e w' => e = .returned (.int .i64 r) ∧ Below w.heap.size w w':=by
 have HR0:=am_ hr0;have HC0:=am_ hc0;clear hr0 hc0;have HR1_0:=am_ hr1_0;have HC1_0:=am_ hc1_0;clear hr1_0 hc1_0;have HR1_1:=am_ hr1_1;have HC1_1:=am_ hc1_1;clear hr1_1 hc1_1;have HB:=am_ (Below.refl w.heap.size w);have H : (slices_IndexFunc_int.l0 k l0 (l0.length : Int) 0 l1_0 l1_1) = some r:=h;clear h;have H':=am_ H;clear H
 go_enter Try.func87,Try.ntmps87
 go_wp2
 go_loopg [8] k (fun kq v8 w' => ∃ (x8_1 : Int),v8 = .int .i64 x8_1 ∧ Aside0 (slices_IndexFunc_int.l0 kq l0 (l0.length : Int) x8_1 l1_0 l1_1 = some r) ∧ Aside0 (kq ≤ k) ∧ Aside0 (Below w.heap.size w w'))
 case atStart => exact ⟨(0),(by first | rfl | (simp;done) | (simp [*];done)),H',⟨Nat.le_refl _⟩,⟨by repeat (first | (with_reducible first | exact HB.out | apply below_alloc | apply pw_below_drewN | apply below_drew1) | exact HB.out)⟩⟩
 case round =>
  clear H';(try clear c1);(try clear p2);obtain ⟨x8_1,rfl,HA,HK1,HB⟩ := hrel
  cases gk with
  | zero => exact absurd HA.out (by simp [slices_IndexFunc_int.l0])
  | succ k1 =>
   have H:=HA.out;clear HA;simp only [slices_IndexFunc_int.l0] at H
   by_cases c3 : x8_1 < (l0.length : Int)
   ·rw [if_pos c3] at H;have c3b0 : decide (x8_1 < (l0.length : Int)) = true:=decide_eq_true c3;clear c3
    by_cases c4 : 0 ≤ x8_1
    ·rw [if_pos c4] at H;have c4b0 : decide (0 ≤ x8_1) = true:=decide_eq_true c4;clear c4
     by_cases c5 : x8_1 < (l0.length : Int)
     ·rw [if_pos c5] at H;have c5b0 : decide (x8_1 < (l0.length : Int)) = true:=decide_eq_true c5;clear c5;replace H:=Option.bind_eq_some_iff.mp H;obtain ⟨t116,A60,H⟩ := H;replace H : (if t116 = true then (some x8_1) else (slices_IndexFunc_int.l0 k1 l0 (l0.length : Int) (wrap64 (x8_1 + 1)) l1_0 l1_1)) = some r:=H;have A6:=am_ A60;clear A60
      by_cases c7 : t116 = true
      ·subst c7
       have H1 : (some x8_1) = some r:=by rw [if_pos rfl] at H;exact H
       clear H;have H:=H1;clear H1;obtain rfl:=Option.some.inj H;have p115 : 0 ≤ (x8_1 : Int):=of_decide_eq_true (by first | (with_reducible assumption) | assumption);have q115 : x8_1 < (l0.length : Int):=of_decide_eq_true (by first | (with_reducible assumption) | assumption);obtain ⟨ad115,e115,hx115_0⟩ := Kd.at_int HR0.out x8_1 p115 q115;cases e115;replace hx115_0:=(HB.out.cell (World.block_lt_of_cell? w _ hx115_0)).trans hx115_0;replace p115:=eq_true p115;replace q115:=eq_true q115
       go_wp2_with (first | ((with_reducible refine gateV_ (x := .tmp 11) rfl ?_);refine goesD_ (some 16) rfl rfl Try.func75 (by kernel_rfl) rfl #[.pointer (some ⟨G1_0,0,none⟩)] #[.int .i64 (rd l0 x8_1)] #[.int .i64 (rd l0 x8_1), .pointer (some ⟨G1_0,0,none⟩)] rfl rfl (by (try simp only [List.map_toArray,List.map_cons,List.map_nil]);first | done | rfl | (simp only [List.length_drop,List.length_take];rfl)) rfl ?_;(with_reducible refine (impl_isGateFor_1.calls (hg1:=?sg0) (hg2:=?sg1) (rd l0 x8_1) A1_0 c1_0 l1_0 A1_1 c1_1 l1_1 true _ ?side1 ?side2 ?side3 ?side4 A6.out).mono ?_);(case sg0 => exact (by first | exact hg1_0 | exact (Below.cell (by repeat (first | (with_reducible first | exact HB.out | apply below_alloc | apply pw_below_drewN | apply below_drew1) | exact HB.out)) (World.block_lt_of_cell? w _ hg1_0)).trans hg1_0 | (simp only [World.cell?_drewN,World.cell?_drew];exact hg1_0)));(case sg1 => exact (by first | exact hg1_1 | exact (Below.cell (by repeat (first | (with_reducible first | exact HB.out | apply below_alloc | apply pw_below_drewN | apply below_drew1) | exact HB.out)) (World.block_lt_of_cell? w _ hg1_1)).trans hg1_1 | (simp only [World.cell?_drewN,World.cell?_drew];exact hg1_1)));(case side1 => repeat (first | exact (Kd.C_below HR1_0.out HB.out) | (with_reducible refine Kd.C_alloc ?_ _) | (with_reducible refine Kd.C_drewN ?_ _) | (with_reducible refine Kd.C_drew ?_)));(case side2 => exact HC1_0.out);(case side3 => repeat (first | exact (Kd.C_below HR1_1.out HB.out) | (with_reducible refine Kd.C_alloc ?_ _) | (with_reducible refine Kd.C_drewN ?_ _) | (with_reducible refine Kd.C_drew ?_)));(case side4 => exact HC1_1.out);rintro e w8 ⟨rfl,hb⟩;refine ⟨_,rfl, ?_⟩;have n0_:=am_ (below_step (by repeat (first | (with_reducible first | exact HB.out | apply below_alloc | apply pw_below_drewN | apply below_drew1) | exact HB.out)) hb);clear HB;have HB:=n0_;clear n0_;(try clear hb);(try clear hb2);(try clear hk);(try clear hi)))
       go_ret
       exact ⟨by first | rfl | (simp [errW_none,errW_some] <;> rfl) | (simp [*,errW_none,errW_some] <;> rfl),by repeat (first | (with_reducible first | exact HB.out | apply below_alloc | apply pw_below_drewN | apply below_drew1) | exact HB.out)⟩
      ·replace c7:=Bool.eq_false_iff.mpr c7;subst c7
       have H1 : (slices_IndexFunc_int.l0 k1 l0 (l0.length : Int) (wrap64 (x8_1 + 1)) l1_0 l1_1) = some r:=by rw [if_neg (show ¬ (false = true) by decide)] at H;exact H
       clear H;have H:=H1;clear H1;have H':=am_ H;clear H;have p115 : 0 ≤ (x8_1 : Int):=of_decide_eq_true (by first | (with_reducible assumption) | assumption);have q115 : x8_1 < (l0.length : Int):=of_decide_eq_true (by first | (with_reducible assumption) | assumption);obtain ⟨ad115,e115,hx115_0⟩ := Kd.at_int HR0.out x8_1 p115 q115;cases e115;replace hx115_0:=(HB.out.cell (World.block_lt_of_cell? w _ hx115_0)).trans hx115_0;replace p115:=eq_true p115;replace q115:=eq_true q115
       go_wp2_with (first | ((with_reducible refine gateV_ (x := .tmp 11) rfl ?_);refine goesD_ (some 16) rfl rfl Try.func75 (by kernel_rfl) rfl #[.pointer (some ⟨G1_0,0,none⟩)] #[.int .i64 (rd l0 x8_1)] #[.int .i64 (rd l0 x8_1), .pointer (some ⟨G1_0,0,none⟩)] rfl rfl (by (try simp only [List.map_toArray,List.map_cons,List.map_nil]);first | done | rfl | (simp only [List.length_drop,List.length_take];rfl)) rfl ?_;(with_reducible refine (impl_isGateFor_1.calls (hg1:=?sg0) (hg2:=?sg1) (rd l0 x8_1) A1_0 c1_0 l1_0 A1_1 c1_1 l1_1 false _ ?side1 ?side2 ?side3 ?side4 A6.out).mono ?_);(case sg0 => exact (by first | exact hg1_0 | exact (Below.cell (by repeat (first | (with_reducible first | exact HB.out | apply below_alloc | apply pw_below_drewN | apply below_drew1) | exact HB.out)) (World.block_lt_of_cell? w _ hg1_0)).trans hg1_0 | (simp only [World.cell?_drewN,World.cell?_drew];exact hg1_0)));(case sg1 => exact (by first | exact hg1_1 | exact (Below.cell (by repeat (first | (with_reducible first | exact HB.out | apply below_alloc | apply pw_below_drewN | apply below_drew1) | exact HB.out)) (World.block_lt_of_cell? w _ hg1_1)).trans hg1_1 | (simp only [World.cell?_drewN,World.cell?_drew];exact hg1_1)));(case side1 => repeat (first | exact (Kd.C_below HR1_0.out HB.out) | (with_reducible refine Kd.C_alloc ?_ _) | (with_reducible refine Kd.C_drewN ?_ _) | (with_reducible refine Kd.C_drew ?_)));(case side2 => exact HC1_0.out);(case side3 => repeat (first | exact (Kd.C_below HR1_1.out HB.out) | (with_reducible refine Kd.C_alloc ?_ _) | (with_reducible refine Kd.C_drewN ?_ _) | (with_reducible refine Kd.C_drew ?_)));(case side4 => exact HC1_1.out);rintro e w9 ⟨rfl,hb⟩;refine ⟨_,rfl, ?_⟩;have n0_:=am_ (below_step (by repeat (first | (with_reducible first | exact HB.out | apply below_alloc | apply pw_below_drewN | apply below_drew1) | exact HB.out)) hb);clear HB;have HB:=n0_;clear n0_;(try clear hb);(try clear hb2);(try clear hk);(try clear hi)))
       go_roundg k1
       case measure => have:=HK1.out;omega
       case rel => exact ⟨(wrap64 (x8_1 + 1)),(by first | rfl | (simp;done) | (simp [*];done)),H',⟨by have:=HK1.out;omega⟩,⟨by repeat (first | (with_reducible first | exact HB.out | apply below_alloc | apply pw_below_drewN | apply below_drew1) | exact HB.out)⟩⟩
     ·rw [if_neg c5] at H
      exact absurd H (by simp)
    ·rw [if_neg c4] at H
     exact absurd H (by simp)
   ·rw [if_neg c3] at H;have c3b0 : decide (x8_1 < (l0.length : Int)) = false:=decide_eq_false c3;clear c3;obtain rfl:=Option.some.inj H
    go_wp2
    go_ret
    exact ⟨by first | rfl | (simp [errW_none,errW_some] <;> rfl) | (simp [*,errW_none,errW_some] <;> rfl),by repeat (first | (with_reducible first | exact HB.out | apply below_alloc | apply pw_below_drewN | apply below_drew1) | exact HB.out)⟩

/-! ### slices_ContainsFunc_int: function 74 -/
def slices_ContainsFunc_int.f (k : Nat) (l0 : List Int) (l1_0 : List Int) (l1_1 : List (List Int)) : Option (Bool):=(slices_IndexFunc_int.f k l0 l1_0 l1_1).bind fun t117 => (some (decide (t117 ≥ 0)))
theorem slices_ContainsFunc_int.mono : ∀ a0 a1 a2 k,LeO (slices_ContainsFunc_int.f k a0 a1 a2) (slices_ContainsFunc_int.f (k + 1) a0 a1 a2):=by
 intro a0 a1 a2 k
 unfold slices_ContainsFunc_int.f
 repeat' first
   | (with_reducible exact slices_IndexFunc_int.mono _ _ _ _)
   | (with_reducible exact LeO.refl _)
   | (with_reducible exact LeO.none _)
   | (with_reducible refine LeO.ite ?_ ?_)
   | (with_reducible refine LeO.bind ?_ (fun _ => ?_))
   | exact slices_IndexFunc_int.mono _ _ _ _
   | exact LeO.none _
   | refine LeO.ite ?_ ?_
   | refine LeO.bind ?_ (fun _ => ?_)
set_option maxHeartbeats 8000000 in
set_option maxRecDepth 100000 in
theorem slices_ContainsFunc_int.calls (k : Nat) (A0 : Option Addr) (c0 : Nat) (l0 : List Int) (A1_0 : Option Addr) (c1_0 : Nat) (l1_0 : List Int) (A1_1 : Option Addr) (c1_1 : Nat) (l1_1 : List (List Int)) {G1_0 : Nat} (r : Bool) (w : World) (hr0 : Kd.C (Kd.int .i64) w A0 l0.length l0) (hc0 : l0.length ≤ c0) (hr1_0 : Kd.C (Kd.int .i64) w A1_0 l1_0.length l1_0) (hc1_0 : l1_0.length ≤ c1_0) (hr1_1 : Kd.C (Kd.slice 3 (Kd.int .i64)) w A1_1 l1_1.length l1_1) (hc1_1 : l1_1.length ≤ c1_1) (hg1_0 : w.cell? ⟨G1_0,0,none⟩ = some (.slice A1_0 l1_0.length c1_0)) (hg1_1 : w.cell? ⟨G1_0,1,none⟩ = some (.slice A1_1 l1_1.length c1_1)) (h : slices_ContainsFunc_int.f k l0 l1_0 l1_1 = some r) :
  Calls Try.prog 74 #[.slice A0 l0.length c0,(.func (.func 75) #[] #[.pointer (some ⟨G1_0,0,none⟩)])] w fun e w' => e = .returned (.bool r) ∧ Below w.heap.size w w':=by
 have HR0:=am_ hr0;have HC0:=am_ hc0;clear hr0 hc0;have HR1_0:=am_ hr1_0;have HC1_0:=am_ hc1_0;clear hr1_0 hc1_0;have HR1_1:=am_ hr1_1;have HC1_1:=am_ hc1_1;clear hr1_1 hc1_1;have HB:=am_ (Below.refl w.heap.size w);have H : ((slices_IndexFunc_int.f k l0 l1_0 l1_1).bind fun t117 => (some (decide (t117 ≥ 0)))) = some r:=h;clear h;replace H:=Option.bind_eq_some_iff.mp H;obtain ⟨t117,A30,H⟩ := H;replace H : (some (decide (t117 ≥ 0))) = some r:=H;have A3:=am_ A30;clear A30;obtain rfl:=Option.some.inj H
 go_enter Try.func74,Try.ntmps74
 go_wp2_with (first | ((with_reducible refine gate_callee (f:=87) rfl ?_);refine goesL_ (some 7) rfl rfl Try.func87 (by kernel_rfl) rfl #[.slice A0 l0.length c0,(.func (.func 75) #[] #[.pointer (some ⟨G1_0,0,none⟩)])] rfl (by (try simp only [List.map_toArray,List.map_cons,List.map_nil]);first | done | rfl | (simp only [List.length_drop,List.length_take];rfl)) ?_;(with_reducible refine (slices_IndexFunc_int.calls (hg1_0:=?sg0) (hg1_1:=?sg1) k _ _ l0 A1_0 c1_0 l1_0 A1_1 c1_1 l1_1 t117 _ ?side1 ?side2 ?side3 ?side4 ?side5 ?side6 A3.out).mono ?_);(case sg0 => exact (by first | exact hg1_0 | exact (Below.cell (by repeat (first | (with_reducible first | exact HB.out | apply below_alloc | apply pw_below_drewN | apply below_drew1) | exact HB.out)) (World.block_lt_of_cell? w _ hg1_0)).trans hg1_0 | (simp only [World.cell?_drewN,World.cell?_drew];exact hg1_0)));(case sg1 => exact (by first | exact hg1_1 | exact (Below.cell (by repeat (first | (with_reducible first | exact HB.out | apply below_alloc | apply pw_below_drewN | apply below_drew1) | exact HB.out)) (World.block_lt_of_cell? w _ hg1_1)).trans hg1_1 | (simp only [World.cell?_drewN,World.cell?_drew];exact hg1_1)));(case side1 => repeat (first | exact HR0.out | (with_reducible refine Kd.C_alloc ?_ _) | (with_reducible refine Kd.C_drewN ?_ _) | (with_reducible refine Kd.C_drew ?_)));(case side2 => exact HC0.out);(case side3 => repeat (first | exact HR1_0.out | (with_reducible refine Kd.C_alloc ?_ _) | (with_reducible refine Kd.C_drewN ?_ _) | (with_reducible refine Kd.C_drew ?_)));(case side4 => exact HC1_0.out);(case side5 => repeat (first | exact HR1_1.out | (with_reducible refine Kd.C_alloc ?_ _) | (with_reducible refine Kd.C_drewN ?_ _) | (with_reducible refine Kd.C_drew ?_)));(case side6 => exact HC1_1.out);rintro e w4 ⟨rfl,hb⟩;refine ⟨_,rfl, ?_⟩;have n0_:=am_ (below_step (by repeat (first | (with_reducible first | exact HB.out | apply below_alloc | apply pw_below_drewN | apply below_drew1) | exact HB.out)) hb);clear HB;have HB:=n0_;clear n0_;(try clear hb);(try clear hb2);(try clear hk);(try clear hi)))
 go_ret
 exact ⟨by first | rfl | (simp [errW_none,errW_some] <;> rfl) | (simp [*,errW_none,errW_some] <;> rfl),by repeat (first | (with_reducible first | exact HB.out | apply below_alloc | apply pw_below_drewN | apply below_drew1) | exact HB.out)⟩

end Go.Proofs.Ytglfjaaaegfdnaa.PFnExactCloseSlot
