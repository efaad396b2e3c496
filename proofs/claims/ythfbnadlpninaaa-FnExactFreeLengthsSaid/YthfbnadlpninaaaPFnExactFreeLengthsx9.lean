-- Written by a program of this session, over the kit's print (wip/xprint.py)
import Derived.Test.YthfbnadlpninaaaPFnExactFreeLengthsx0
import Derived.Test.YthfbnadlpninaaaPFnExactFreeLengthsx6
import Derived.Test.YthfbnadlpninaaaPFnExactFreeLengthsx7
import Derived.Test.YthfbnadlpninaaaPFnExactFreeLengthsx8
namespace Go.Proofs.Ythfbnadlpninaaa.PFnExactFreeLengths
open Go.RowKit Go.Proofs.YthfbnadlpninaaaW.PrintWords Go.Proofs.YthfbnadlpninaaaW.PrintLast Go.Proofs.YthfbnadlpninaaaW.PrintMore
attribute [local go_sem] max2_int min2_int max_two min_two max_three min_three max_four min_four   -- for this text's walks alone
set_option linter.unusedVariables false
set_option linter.unusedSimpArgs false

/-! ### impl_isLoaded: function 72 -/
def impl_isLoaded.l0 : Nat → List Int → List Int → List (S70) → Int → Int → Option (Bool)
 | 0,_,_,_,_,_ => none
 | k + 1,x7,x8,x18,x19,x20 => if x20 < x19 then (if 0 ≤ x20 then (if x20 < (x18.length : Int) then (if x20 < (x7.length : Int) then (if (rd x7 x20) > ((rd_T70 x18 x20).f0) then (some false) else (if x20 < (x8.length : Int) then (if (rd x8 x20) > ((rd_T70 x18 x20).f1) then (some false) else (impl_isLoaded.l0 k x7 x8 x18 x19 (wrap64 (x20 + 1)))) else (none))) else (none)) else (none)) else (none)) else (some true)
def impl_isLoaded.f (k : Nat) (l0 : List (S70)) (l1 : List (S64)) (l2 : List Int) : Option (Bool):=(impl_usage.f k l0 l1 l2).bind fun bt243 => (impl_isLoaded.l0 k bt243.1 bt243.2 l0 (l0.length : Int) 0)
theorem impl_isLoaded.mono_l : ∀ k,(∀ y0 y1 y2 y3 y4,LeO (impl_isLoaded.l0 k y0 y1 y2 y3 y4) (impl_isLoaded.l0 (k + 1) y0 y1 y2 y3 y4))
 | 0 => fun _ _ _ _ _ r h => by simp [impl_isLoaded.l0] at h
 | k + 1 => by
  have ih0:=impl_isLoaded.mono_l k
  ·intro y0 y1 y2 y3 y4
   unfold impl_isLoaded.l0
   repeat' first
   | (with_reducible exact ih0 _ _ _ _ _)
   | (with_reducible exact impl_usage.mono _ _ _ _)
   | (with_reducible exact LeO.refl _)
   | (with_reducible exact LeO.none _)
   | (with_reducible refine LeO.ite ?_ ?_)
   | (with_reducible refine LeO.bind ?_ (fun _ => ?_))
   | exact ih0 _ _ _ _ _
   | exact impl_usage.mono _ _ _ _
   | exact LeO.none _
   | refine LeO.ite ?_ ?_
   | refine LeO.bind ?_ (fun _ => ?_)
theorem impl_isLoaded.mono : ∀ a0 a1 a2 k,LeO (impl_isLoaded.f k a0 a1 a2) (impl_isLoaded.f (k + 1) a0 a1 a2):=by
 intro a0 a1 a2 k
 have ih0:=impl_isLoaded.mono_l k
 unfold impl_isLoaded.f
 repeat' first
   | (with_reducible exact ih0 _ _ _ _ _)
   | (with_reducible exact impl_usage.mono _ _ _ _)
   | (with_reducible exact LeO.refl _)
   | (with_reducible exact LeO.none _)
   | (with_reducible refine LeO.ite ?_ ?_)
   | (with_reducible refine LeO.bind ?_ (fun _ => ?_))
   | exact ih0 _ _ _ _ _
   | exact impl_usage.mono _ _ _ _
   | exact LeO.none _
   | refine LeO.ite ?_ ?_
   | refine LeO.bind ?_ (fun _ => ?_)
set_option maxHeartbeats 8000000 in
set_option maxRecDepth 100000 in
theorem impl_isLoaded.calls (k : Nat) (A0 : Option Addr) (c0 : Nat) (l0 : List (S70)) (A1 : Option Addr) (c1 : Nat) (l1 : List (S64)) (A2 : Option Addr) (c2 : Nat) (l2 : List Int) (r : Bool) (w : World) (hr0 : Kd.C k70 w A0 l0.length l0) (hc0 : l0.length ≤ c0) (hr1 : Kd.C k64 w A1 l1.length l1) (hc1 : l1.length ≤ c1) (hr2 : Kd.C (Kd.int .i64) w A2 l2.length l2) (hc2 : l2.length ≤ c2) (h : impl_isLoaded.f k l0 l1 l2 = some r) :
  Calls Try.prog 72 #[.slice A0 l0.length c0, .slice A1 l1.length c1, .slice A2 l2.length c2] w fun e w' => e = .returned (.bool r) ∧ Below w.heap.size w w':=by
 have hu70:=Try.underlying70
 have HR0:=Aside0.mk hr0
 have HC0:=Aside0.mk hc0
 clear hr0 hc0
 have HR1:=Aside0.mk hr1
 have HC1:=Aside0.mk hc1
 clear hr1 hc1
 have HR2:=Aside0.mk hr2
 have HC2:=Aside0.mk hc2
 clear hr2 hc2
 have HB:=Aside0.mk (Below.refl w.heap.size w)
 have H : ((impl_usage.f k l0 l1 l2).bind fun bt243 => (impl_isLoaded.l0 k bt243.1 bt243.2 l0 (l0.length : Int) 0)) = some r:=h
 clear h
 replace H:=Option.bind_eq_some_iff.mp H
 obtain ⟨⟨t243,t244⟩,A40,H⟩ := H
 replace H : (impl_isLoaded.l0 k t243 t244 l0 (l0.length : Int) 0) = some r:=H
 have A4:=Aside0.mk A40
 clear A40
 have H':=Aside0.mk H
 clear H
 go_enter Try.func72,Try.ntmps72
 go_wp2_with (first | (go_at_call 82;(with_reducible refine (impl_usage.calls k _ _ l0 _ _ l1 _ _ l2 t243 t244 _ ?side1 ?side2 ?side3 ?side4 ?side5 ?side6 A4.out).mono ?_);(case side1 => repeat (first | exact HR0.out | (with_reducible refine Kd.C_alloc ?_ _) | (with_reducible refine Kd.C_drewN ?_ _) | (with_reducible refine Kd.C_drew ?_)));(case side2 => exact HC0.out);(case side3 => repeat (first | exact HR1.out | (with_reducible refine Kd.C_alloc ?_ _) | (with_reducible refine Kd.C_drewN ?_ _) | (with_reducible refine Kd.C_drew ?_)));(case side4 => exact HC1.out);(case side5 => repeat (first | exact HR2.out | (with_reducible refine Kd.C_alloc ?_ _) | (with_reducible refine Kd.C_drewN ?_ _) | (with_reducible refine Kd.C_drew ?_)));(case side6 => exact HC2.out);rintro e w5 ⟨v245,v247,rfl,ho0,ho1,hb⟩;have n0_:=Aside0.mk (Kd.R_lower ho0 (below_size (by repeat (first | (with_reducible first | exact HB.out | apply below_alloc | apply pw_below_drewN | apply below_drew1) | exact HB.out))));have n1_:=Aside0.mk (Kd.R_lower ho1 (below_size (by repeat (first | (with_reducible first | exact HB.out | apply below_alloc | apply pw_below_drewN | apply below_drew1) | exact HB.out))));have n2_:=Aside0.mk (below_step (by repeat (first | (with_reducible first | exact HB.out | apply below_alloc | apply pw_below_drewN | apply below_drew1) | exact HB.out)) hb);clear HB;have HO246:=n0_;have HO248:=n1_;have HB:=n2_;clear n0_ n1_ n2_;(try clear hb);(try clear hb2);(try clear hk);(try clear hi);(try clear ho0);(try clear ho1)))
 repeat (go_quiet (first | (go_at_call 82;(with_reducible refine (impl_usage.calls k _ _ l0 _ _ l1 _ _ l2 t243 t244 _ ?side1 ?side2 ?side3 ?side4 ?side5 ?side6 A4.out).mono ?_);(case side1 => repeat (first | exact HR0.out | (with_reducible refine Kd.C_alloc ?_ _) | (with_reducible refine Kd.C_drewN ?_ _) | (with_reducible refine Kd.C_drew ?_)));(case side2 => exact HC0.out);(case side3 => repeat (first | exact HR1.out | (with_reducible refine Kd.C_alloc ?_ _) | (with_reducible refine Kd.C_drewN ?_ _) | (with_reducible refine Kd.C_drew ?_)));(case side4 => exact HC1.out);(case side5 => repeat (first | exact HR2.out | (with_reducible refine Kd.C_alloc ?_ _) | (with_reducible refine Kd.C_drewN ?_ _) | (with_reducible refine Kd.C_drew ?_)));(case side6 => exact HC2.out);rintro e w5 ⟨v245,v247,rfl,ho0,ho1,hb⟩;have n0_:=Aside0.mk (Kd.R_lower ho0 (below_size (by repeat (first | (with_reducible first | exact HB.out | apply below_alloc | apply pw_below_drewN | apply below_drew1) | exact HB.out))));have n1_:=Aside0.mk (Kd.R_lower ho1 (below_size (by repeat (first | (with_reducible first | exact HB.out | apply below_alloc | apply pw_below_drewN | apply below_drew1) | exact HB.out))));have n2_:=Aside0.mk (below_step (by repeat (first | (with_reducible first | exact HB.out | apply below_alloc | apply pw_below_drewN | apply below_drew1) | exact HB.out)) hb);clear HB;have HO246:=n0_;have HO248:=n1_;have HB:=n2_;clear n0_ n1_ n2_;(try clear hb);(try clear hb2);(try clear hk);(try clear hi);(try clear ho0);(try clear ho1)));try go_wp2_with (first | (go_at_call 82;(with_reducible refine (impl_usage.calls k _ _ l0 _ _ l1 _ _ l2 t243 t244 _ ?side1 ?side2 ?side3 ?side4 ?side5 ?side6 A4.out).mono ?_);(case side1 => repeat (first | exact HR0.out | (with_reducible refine Kd.C_alloc ?_ _) | (with_reducible refine Kd.C_drewN ?_ _) | (with_reducible refine Kd.C_drew ?_)));(case side2 => exact HC0.out);(case side3 => repeat (first | exact HR1.out | (with_reducible refine Kd.C_alloc ?_ _) | (with_reducible refine Kd.C_drewN ?_ _) | (with_reducible refine Kd.C_drew ?_)));(case side4 => exact HC1.out);(case side5 => repeat (first | exact HR2.out | (with_reducible refine Kd.C_alloc ?_ _) | (with_reducible refine Kd.C_drewN ?_ _) | (with_reducible refine Kd.C_drew ?_)));(case side6 => exact HC2.out);rintro e w5 ⟨v245,v247,rfl,ho0,ho1,hb⟩;have n0_:=Aside0.mk (Kd.R_lower ho0 (below_size (by repeat (first | (with_reducible first | exact HB.out | apply below_alloc | apply pw_below_drewN | apply below_drew1) | exact HB.out))));have n1_:=Aside0.mk (Kd.R_lower ho1 (below_size (by repeat (first | (with_reducible first | exact HB.out | apply below_alloc | apply pw_below_drewN | apply below_drew1) | exact HB.out))));have n2_:=Aside0.mk (below_step (by repeat (first | (with_reducible first | exact HB.out | apply below_alloc | apply pw_below_drewN | apply below_drew1) | exact HB.out)) hb);clear HB;have HO246:=n0_;have HO248:=n1_;have HB:=n2_;clear n0_ n1_ n2_;(try clear hb);(try clear hb2);(try clear hk);(try clear hi);(try clear ho0);(try clear ho1))))
 go_loopg [20] k (fun kq v20 w' => ∃ (x20_1 : Int),v20 = .int .i64 x20_1 ∧ Aside0 (impl_isLoaded.l0 kq t243 t244 l0 (l0.length : Int) x20_1 = some r) ∧ Aside0 (kq ≤ k) ∧ Aside0 (Kd.R (Kd.int .i64) 3 w' w.heap.size (fun k_ => some k_ ≠ (v247 : Value).ownBlock) v245 t243) ∧ Aside0 (Kd.R (Kd.int .i64) 3 w' w.heap.size (fun k_ => some k_ ≠ (v245 : Value).ownBlock) v247 t244) ∧ Aside0 (Below w.heap.size w w'))
 case atStart => exact ⟨(0),(by first | rfl | (simp;done) | (simp [*];done)),H',⟨Nat.le_refl _⟩,⟨by (with_reducible repeat (first | apply Kd.R_alloc | apply Kd.R_drewN | apply Kd.R_drew));exact HO246.out⟩,⟨by (with_reducible repeat (first | apply Kd.R_alloc | apply Kd.R_drewN | apply Kd.R_drew));exact HO248.out⟩,⟨by repeat (first | (with_reducible first | exact HB.out | apply below_alloc | apply pw_below_drewN | apply below_drew1) | exact HB.out)⟩⟩
 case round =>
  clear H'
  try clear c1
  try clear c2
  try clear p2
  obtain ⟨x20_1,rfl,HA,HK1,HO_7,HO_8,HB⟩ := hrel
  cases gk with
  | zero => exact absurd HA.out (by simp [impl_isLoaded.l0])
  | succ k1 =>
   have H:=HA.out
   clear HA
   simp only [impl_isLoaded.l0] at H
   by_cases c6 : x20_1 < (l0.length : Int)
   ·rw [if_pos c6] at H
    have c6b0 : decide (x20_1 < (l0.length : Int)) = true:=decide_eq_true c6
    clear c6
    by_cases c7 : 0 ≤ x20_1
    ·rw [if_pos c7] at H
     have c7b0 : decide (0 ≤ x20_1) = true:=decide_eq_true c7
     clear c7
     by_cases c8 : x20_1 < (l0.length : Int)
     ·rw [if_pos c8] at H
      have c8b0 : decide (x20_1 < (l0.length : Int)) = true:=decide_eq_true c8
      clear c8
      by_cases c9 : x20_1 < (t243.length : Int)
      ·rw [if_pos c9] at H
       have c9b0 : decide (x20_1 < (t243.length : Int)) = true:=decide_eq_true c9
       clear c9
       by_cases c10 : (rd t243 x20_1) > ((rd_T70 l0 x20_1).f0)
       ·rw [if_pos c10] at H
        have c10b0 : decide (((rd_T70 l0 x20_1).f0) < (rd t243 x20_1)) = true:=decide_eq_true c10
        clear c10
        obtain rfl:=Option.some.inj H
        have p249 : 0 ≤ (x20_1 : Int):=of_decide_eq_true (by first | (with_reducible assumption) | assumption)
        have q249 : x20_1 < (l0.length : Int):=of_decide_eq_true (by first | (with_reducible assumption) | assumption)
        obtain ⟨ad249,e249,hx249_0,hx249_1⟩ := at_T70 HR0.out x20_1 p249 q249
        cases e249
        replace hx249_0:=(HB.out.cell (World.block_lt_of_cell? w _ hx249_0)).trans hx249_0
        replace hx249_1:=(HB.out.cell (World.block_lt_of_cell? w _ hx249_1)).trans hx249_1
        replace p249:=eq_true p249
        replace q249:=eq_true q249
        go_wp2_with (first | ((with_reducible refine gate_dst (N:=10) rfl ?_);refine box_event ?hg (N:=10) ?hd (cs:=#[.int .i64 0, .int .i64 0]) (t:=70) ?hr ?_;(case hd => rfl);(case hg => rfl);(case hr => first | (go_simp;done) | (go_simp;rfl));intro gb250 hg w11 hbox hb;have n0_:=Aside0.mk (Kd.R_below (by (with_reducible repeat (first | apply Kd.R_alloc | apply Kd.R_drewN | apply Kd.R_drew));exact HO_7.out) hb);have n1_:=Aside0.mk (Kd.R_below (by (with_reducible repeat (first | apply Kd.R_alloc | apply Kd.R_drewN | apply Kd.R_drew));exact HO_8.out) hb);have n2_:=Aside0.mk (below_step (by repeat (first | (with_reducible first | exact HB.out | apply below_alloc | apply pw_below_drewN | apply below_drew1) | exact HB.out)) hb);have n3_:=Aside0.mk (hbox);have n4_:=Aside0.mk ((by rw [hg];exact (below_size (by repeat (first | (with_reducible first | exact HB.out | apply below_alloc | apply pw_below_drewN | apply below_drew1) | exact HB.out))) : w.heap.size ≤ gb250));have n5_:=Aside0.mk ((by rw [hg];exact (below_size (by repeat (first | (with_reducible first | exact HB.out | apply below_alloc | apply pw_below_drewN | apply below_drew1) | exact HB.out))) : w.heap.size ≤ gb250));clear HO_7;clear HO_8;clear HB;have HO_7:=n0_;have HO_8:=n1_;have HB:=n2_;have BK250:=n3_;have GW250:=n4_;have GE250:=n5_;clear n0_ n1_ n2_ n3_ n4_ n5_;clear hb hbox hg;have hcz12_0 : w11.cell? ⟨gb250,0,none⟩ = some (.int .i64 0):=(blk_cell BK250.out 0).trans rfl;have hcz12_1 : w11.cell? ⟨gb250,1,none⟩ = some (.int .i64 0):=(blk_cell BK250.out 1).trans rfl;have hfz12_0:=blk_frozen BK250.out 0;have hfz12_1:=blk_frozen BK250.out 1;obtain ⟨Ao13,co13,eo13⟩ := Kd.R_slice HO_7.out;subst eo13;have p251 : 0 ≤ (x20_1 : Int):=of_decide_eq_true (by first | (with_reducible assumption) | assumption);have q251 : x20_1 < (t243.length : Int):=of_decide_eq_true (by first | (with_reducible assumption) | assumption);obtain ⟨ad251,e251,hx251_0⟩ := Kd.at_int (Kd.R_reads' HO_7.out).2.2 x20_1 p251 q251;cases e251;have hn251_0 : ad251.block ≠ gb250:=Kd.own_blk (Kd.R_ne HO_7.out BK250.out (by decide));have hn251_1 : ad251.block ≠ gb250:=Kd.own_blk (Kd.R_ne HO_7.out BK250.out (by decide));replace hx251_0:=(cell_far (p:=⟨gb250,0,none⟩) (by first | (rw [add_block];exact hn251_0) | (show (Addr.add _ _).block ≠ _;rw [add_block];exact hn251_0) | exact hn251_0) (.int .i64 ((rd_T70 l0 x20_1).f0))).trans hx251_0;replace hx251_0:=(cell_far (p:=⟨gb250,1,none⟩) (by first | (rw [add_block];exact hn251_1) | (show (Addr.add _ _).block ≠ _;rw [add_block];exact hn251_1) | exact hn251_1) (.int .i64 ((rd_T70 l0 x20_1).f1))).trans hx251_0;(try have hy251_0:=fun (n_ : Nat) => (show ((((w11.drewN n_).setCell ⟨gb250,0,none⟩ (.int .i64 ((rd_T70 l0 x20_1).f0))).setCell ⟨gb250,1,none⟩ (.int .i64 ((rd_T70 l0 x20_1).f1)))).cell? _ = some _ from hx251_0));clear hn251_0;clear hn251_1;replace p251:=eq_true p251;replace q251:=eq_true q251))
        repeat (go_quiet (first | ((with_reducible refine gate_dst (N:=10) rfl ?_);refine box_event ?hg (N:=10) ?hd (cs:=#[.int .i64 0, .int .i64 0]) (t:=70) ?hr ?_;(case hd => rfl);(case hg => rfl);(case hr => first | (go_simp;done) | (go_simp;rfl));intro gb250 hg w11 hbox hb;have n0_:=Aside0.mk (Kd.R_below (by (with_reducible repeat (first | apply Kd.R_alloc | apply Kd.R_drewN | apply Kd.R_drew));exact HO_7.out) hb);have n1_:=Aside0.mk (Kd.R_below (by (with_reducible repeat (first | apply Kd.R_alloc | apply Kd.R_drewN | apply Kd.R_drew));exact HO_8.out) hb);have n2_:=Aside0.mk (below_step (by repeat (first | (with_reducible first | exact HB.out | apply below_alloc | apply pw_below_drewN | apply below_drew1) | exact HB.out)) hb);have n3_:=Aside0.mk (hbox);have n4_:=Aside0.mk ((by rw [hg];exact (below_size (by repeat (first | (with_reducible first | exact HB.out | apply below_alloc | apply pw_below_drewN | apply below_drew1) | exact HB.out))) : w.heap.size ≤ gb250));have n5_:=Aside0.mk ((by rw [hg];exact (below_size (by repeat (first | (with_reducible first | exact HB.out | apply below_alloc | apply pw_below_drewN | apply below_drew1) | exact HB.out))) : w.heap.size ≤ gb250));clear HO_7;clear HO_8;clear HB;have HO_7:=n0_;have HO_8:=n1_;have HB:=n2_;have BK250:=n3_;have GW250:=n4_;have GE250:=n5_;clear n0_ n1_ n2_ n3_ n4_ n5_;clear hb hbox hg;have hcz12_0 : w11.cell? ⟨gb250,0,none⟩ = some (.int .i64 0):=(blk_cell BK250.out 0).trans rfl;have hcz12_1 : w11.cell? ⟨gb250,1,none⟩ = some (.int .i64 0):=(blk_cell BK250.out 1).trans rfl;have hfz12_0:=blk_frozen BK250.out 0;have hfz12_1:=blk_frozen BK250.out 1;obtain ⟨Ao13,co13,eo13⟩ := Kd.R_slice HO_7.out;subst eo13;have p251 : 0 ≤ (x20_1 : Int):=of_decide_eq_true (by first | (with_reducible assumption) | assumption);have q251 : x20_1 < (t243.length : Int):=of_decide_eq_true (by first | (with_reducible assumption) | assumption);obtain ⟨ad251,e251,hx251_0⟩ := Kd.at_int (Kd.R_reads' HO_7.out).2.2 x20_1 p251 q251;cases e251;have hn251_0 : ad251.block ≠ gb250:=Kd.own_blk (Kd.R_ne HO_7.out BK250.out (by decide));have hn251_1 : ad251.block ≠ gb250:=Kd.own_blk (Kd.R_ne HO_7.out BK250.out (by decide));replace hx251_0:=(cell_far (p:=⟨gb250,0,none⟩) (by first | (rw [add_block];exact hn251_0) | (show (Addr.add _ _).block ≠ _;rw [add_block];exact hn251_0) | exact hn251_0) (.int .i64 ((rd_T70 l0 x20_1).f0))).trans hx251_0;replace hx251_0:=(cell_far (p:=⟨gb250,1,none⟩) (by first | (rw [add_block];exact hn251_1) | (show (Addr.add _ _).block ≠ _;rw [add_block];exact hn251_1) | exact hn251_1) (.int .i64 ((rd_T70 l0 x20_1).f1))).trans hx251_0;(try have hy251_0:=fun (n_ : Nat) => (show ((((w11.drewN n_).setCell ⟨gb250,0,none⟩ (.int .i64 ((rd_T70 l0 x20_1).f0))).setCell ⟨gb250,1,none⟩ (.int .i64 ((rd_T70 l0 x20_1).f1)))).cell? _ = some _ from hx251_0));clear hn251_0;clear hn251_1;replace p251:=eq_true p251;replace q251:=eq_true q251));try go_wp2_with (first | ((with_reducible refine gate_dst (N:=10) rfl ?_);refine box_event ?hg (N:=10) ?hd (cs:=#[.int .i64 0, .int .i64 0]) (t:=70) ?hr ?_;(case hd => rfl);(case hg => rfl);(case hr => first | (go_simp;done) | (go_simp;rfl));intro gb250 hg w11 hbox hb;have n0_:=Aside0.mk (Kd.R_below (by (with_reducible repeat (first | apply Kd.R_alloc | apply Kd.R_drewN | apply Kd.R_drew));exact HO_7.out) hb);have n1_:=Aside0.mk (Kd.R_below (by (with_reducible repeat (first | apply Kd.R_alloc | apply Kd.R_drewN | apply Kd.R_drew));exact HO_8.out) hb);have n2_:=Aside0.mk (below_step (by repeat (first | (with_reducible first | exact HB.out | apply below_alloc | apply pw_below_drewN | apply below_drew1) | exact HB.out)) hb);have n3_:=Aside0.mk (hbox);have n4_:=Aside0.mk ((by rw [hg];exact (below_size (by repeat (first | (with_reducible first | exact HB.out | apply below_alloc | apply pw_below_drewN | apply below_drew1) | exact HB.out))) : w.heap.size ≤ gb250));have n5_:=Aside0.mk ((by rw [hg];exact (below_size (by repeat (first | (with_reducible first | exact HB.out | apply below_alloc | apply pw_below_drewN | apply below_drew1) | exact HB.out))) : w.heap.size ≤ gb250));clear HO_7;clear HO_8;clear HB;have HO_7:=n0_;have HO_8:=n1_;have HB:=n2_;have BK250:=n3_;have GW250:=n4_;have GE250:=n5_;clear n0_ n1_ n2_ n3_ n4_ n5_;clear hb hbox hg;have hcz12_0 : w11.cell? ⟨gb250,0,none⟩ = some (.int .i64 0):=(blk_cell BK250.out 0).trans rfl;have hcz12_1 : w11.cell? ⟨gb250,1,none⟩ = some (.int .i64 0):=(blk_cell BK250.out 1).trans rfl;have hfz12_0:=blk_frozen BK250.out 0;have hfz12_1:=blk_frozen BK250.out 1;obtain ⟨Ao13,co13,eo13⟩ := Kd.R_slice HO_7.out;subst eo13;have p251 : 0 ≤ (x20_1 : Int):=of_decide_eq_true (by first | (with_reducible assumption) | assumption);have q251 : x20_1 < (t243.length : Int):=of_decide_eq_true (by first | (with_reducible assumption) | assumption);obtain ⟨ad251,e251,hx251_0⟩ := Kd.at_int (Kd.R_reads' HO_7.out).2.2 x20_1 p251 q251;cases e251;have hn251_0 : ad251.block ≠ gb250:=Kd.own_blk (Kd.R_ne HO_7.out BK250.out (by decide));have hn251_1 : ad251.block ≠ gb250:=Kd.own_blk (Kd.R_ne HO_7.out BK250.out (by decide));replace hx251_0:=(cell_far (p:=⟨gb250,0,none⟩) (by first | (rw [add_block];exact hn251_0) | (show (Addr.add _ _).block ≠ _;rw [add_block];exact hn251_0) | exact hn251_0) (.int .i64 ((rd_T70 l0 x20_1).f0))).trans hx251_0;replace hx251_0:=(cell_far (p:=⟨gb250,1,none⟩) (by first | (rw [add_block];exact hn251_1) | (show (Addr.add _ _).block ≠ _;rw [add_block];exact hn251_1) | exact hn251_1) (.int .i64 ((rd_T70 l0 x20_1).f1))).trans hx251_0;(try have hy251_0:=fun (n_ : Nat) => (show ((((w11.drewN n_).setCell ⟨gb250,0,none⟩ (.int .i64 ((rd_T70 l0 x20_1).f0))).setCell ⟨gb250,1,none⟩ (.int .i64 ((rd_T70 l0 x20_1).f1)))).cell? _ = some _ from hx251_0));clear hn251_0;clear hn251_1;replace p251:=eq_true p251;replace q251:=eq_true q251)))
        go_ret
        exact ⟨by first | rfl | (simp [errW_none,errW_some] <;> rfl) | (simp [*,errW_none,errW_some] <;> rfl),by repeat (first | (with_reducible first | exact HB.out | apply below_alloc | apply pw_below_drewN | apply below_drew1 | refine below_set ?_ GE250.out) | exact HB.out)⟩
       ·rw [if_neg c10] at H
        have c10b0 : decide (((rd_T70 l0 x20_1).f0) < (rd t243 x20_1)) = false:=decide_eq_false c10
        clear c10
        by_cases c14 : x20_1 < (t244.length : Int)
        ·rw [if_pos c14] at H
         have c14b0 : decide (x20_1 < (t244.length : Int)) = true:=decide_eq_true c14
         clear c14
         by_cases c15 : (rd t244 x20_1) > ((rd_T70 l0 x20_1).f1)
         ·rw [if_pos c15] at H
          have c15b0 : decide (((rd_T70 l0 x20_1).f1) < (rd t244 x20_1)) = true:=decide_eq_true c15
          clear c15
          obtain rfl:=Option.some.inj H
          have p249 : 0 ≤ (x20_1 : Int):=of_decide_eq_true (by first | (with_reducible assumption) | assumption)
          have q249 : x20_1 < (l0.length : Int):=of_decide_eq_true (by first | (with_reducible assumption) | assumption)
          obtain ⟨ad249,e249,hx249_0,hx249_1⟩ := at_T70 HR0.out x20_1 p249 q249
          cases e249
          replace hx249_0:=(HB.out.cell (World.block_lt_of_cell? w _ hx249_0)).trans hx249_0
          replace hx249_1:=(HB.out.cell (World.block_lt_of_cell? w _ hx249_1)).trans hx249_1
          replace p249:=eq_true p249
          replace q249:=eq_true q249
          go_wp2_with (first | ((with_reducible refine gate_dst (N:=10) rfl ?_);refine box_event ?hg (N:=10) ?hd (cs:=#[.int .i64 0, .int .i64 0]) (t:=70) ?hr ?_;(case hd => rfl);(case hg => rfl);(case hr => first | (go_simp;done) | (go_simp;rfl));intro gb250 hg w16 hbox hb;have n0_:=Aside0.mk (Kd.R_below (by (with_reducible repeat (first | apply Kd.R_alloc | apply Kd.R_drewN | apply Kd.R_drew));exact HO_7.out) hb);have n1_:=Aside0.mk (Kd.R_below (by (with_reducible repeat (first | apply Kd.R_alloc | apply Kd.R_drewN | apply Kd.R_drew));exact HO_8.out) hb);have n2_:=Aside0.mk (below_step (by repeat (first | (with_reducible first | exact HB.out | apply below_alloc | apply pw_below_drewN | apply below_drew1) | exact HB.out)) hb);have n3_:=Aside0.mk (hbox);have n4_:=Aside0.mk ((by rw [hg];exact (below_size (by repeat (first | (with_reducible first | exact HB.out | apply below_alloc | apply pw_below_drewN | apply below_drew1) | exact HB.out))) : w.heap.size ≤ gb250));have n5_:=Aside0.mk ((by rw [hg];exact (below_size (by repeat (first | (with_reducible first | exact HB.out | apply below_alloc | apply pw_below_drewN | apply below_drew1) | exact HB.out))) : w.heap.size ≤ gb250));clear HO_7;clear HO_8;clear HB;have HO_7:=n0_;have HO_8:=n1_;have HB:=n2_;have BK250:=n3_;have GW250:=n4_;have GE250:=n5_;clear n0_ n1_ n2_ n3_ n4_ n5_;clear hb hbox hg;have hcz17_0 : w16.cell? ⟨gb250,0,none⟩ = some (.int .i64 0):=(blk_cell BK250.out 0).trans rfl;have hcz17_1 : w16.cell? ⟨gb250,1,none⟩ = some (.int .i64 0):=(blk_cell BK250.out 1).trans rfl;have hfz17_0:=blk_frozen BK250.out 0;have hfz17_1:=blk_frozen BK250.out 1;obtain ⟨Ao18,co18,eo18⟩ := Kd.R_slice HO_7.out;subst eo18;have p251 : 0 ≤ (x20_1 : Int):=of_decide_eq_true (by first | (with_reducible assumption) | assumption);have q251 : x20_1 < (t243.length : Int):=of_decide_eq_true (by first | (with_reducible assumption) | assumption);obtain ⟨ad251,e251,hx251_0⟩ := Kd.at_int (Kd.R_reads' HO_7.out).2.2 x20_1 p251 q251;cases e251;have hn251_0 : ad251.block ≠ gb250:=Kd.own_blk (Kd.R_ne HO_7.out BK250.out (by decide));have hn251_1 : ad251.block ≠ gb250:=Kd.own_blk (Kd.R_ne HO_7.out BK250.out (by decide));replace hx251_0:=(cell_far (p:=⟨gb250,0,none⟩) (by first | (rw [add_block];exact hn251_0) | (show (Addr.add _ _).block ≠ _;rw [add_block];exact hn251_0) | exact hn251_0) (.int .i64 ((rd_T70 l0 x20_1).f0))).trans hx251_0;replace hx251_0:=(cell_far (p:=⟨gb250,1,none⟩) (by first | (rw [add_block];exact hn251_1) | (show (Addr.add _ _).block ≠ _;rw [add_block];exact hn251_1) | exact hn251_1) (.int .i64 ((rd_T70 l0 x20_1).f1))).trans hx251_0;(try have hy251_0:=fun (n_ : Nat) => (show ((((w16.drewN n_).setCell ⟨gb250,0,none⟩ (.int .i64 ((rd_T70 l0 x20_1).f0))).setCell ⟨gb250,1,none⟩ (.int .i64 ((rd_T70 l0 x20_1).f1)))).cell? _ = some _ from hx251_0));clear hn251_0;clear hn251_1;replace p251:=eq_true p251;replace q251:=eq_true q251;obtain ⟨Ao19,co19,eo19⟩ := Kd.R_slice HO_8.out;subst eo19;have p252 : 0 ≤ (x20_1 : Int):=of_decide_eq_true (by first | (with_reducible assumption) | assumption);have q252 : x20_1 < (t244.length : Int):=of_decide_eq_true (by first | (with_reducible assumption) | assumption);obtain ⟨ad252,e252,hx252_0⟩ := Kd.at_int (Kd.R_reads' HO_8.out).2.2 x20_1 p252 q252;cases e252;have hn252_0 : ad252.block ≠ gb250:=Kd.own_blk (Kd.R_ne HO_8.out BK250.out (by decide));have hn252_1 : ad252.block ≠ gb250:=Kd.own_blk (Kd.R_ne HO_8.out BK250.out (by decide));replace hx252_0:=(cell_far (p:=⟨gb250,0,none⟩) (by first | (rw [add_block];exact hn252_0) | (show (Addr.add _ _).block ≠ _;rw [add_block];exact hn252_0) | exact hn252_0) (.int .i64 ((rd_T70 l0 x20_1).f0))).trans hx252_0;replace hx252_0:=(cell_far (p:=⟨gb250,1,none⟩) (by first | (rw [add_block];exact hn252_1) | (show (Addr.add _ _).block ≠ _;rw [add_block];exact hn252_1) | exact hn252_1) (.int .i64 ((rd_T70 l0 x20_1).f1))).trans hx252_0;(try have hy252_0:=fun (n_ : Nat) => (show ((((w16.drewN n_).setCell ⟨gb250,0,none⟩ (.int .i64 ((rd_T70 l0 x20_1).f0))).setCell ⟨gb250,1,none⟩ (.int .i64 ((rd_T70 l0 x20_1).f1)))).cell? _ = some _ from hx252_0));clear hn252_0;clear hn252_1;replace p252:=eq_true p252;replace q252:=eq_true q252))
          repeat (go_quiet (first | ((with_reducible refine gate_dst (N:=10) rfl ?_);refine box_event ?hg (N:=10) ?hd (cs:=#[.int .i64 0, .int .i64 0]) (t:=70) ?hr ?_;(case hd => rfl);(case hg => rfl);(case hr => first | (go_simp;done) | (go_simp;rfl));intro gb250 hg w16 hbox hb;have n0_:=Aside0.mk (Kd.R_below (by (with_reducible repeat (first | apply Kd.R_alloc | apply Kd.R_drewN | apply Kd.R_drew));exact HO_7.out) hb);have n1_:=Aside0.mk (Kd.R_below (by (with_reducible repeat (first | apply Kd.R_alloc | apply Kd.R_drewN | apply Kd.R_drew));exact HO_8.out) hb);have n2_:=Aside0.mk (below_step (by repeat (first | (with_reducible first | exact HB.out | apply below_alloc | apply pw_below_drewN | apply below_drew1) | exact HB.out)) hb);have n3_:=Aside0.mk (hbox);have n4_:=Aside0.mk ((by rw [hg];exact (below_size (by repeat (first | (with_reducible first | exact HB.out | apply below_alloc | apply pw_below_drewN | apply below_drew1) | exact HB.out))) : w.heap.size ≤ gb250));have n5_:=Aside0.mk ((by rw [hg];exact (below_size (by repeat (first | (with_reducible first | exact HB.out | apply below_alloc | apply pw_below_drewN | apply below_drew1) | exact HB.out))) : w.heap.size ≤ gb250));clear HO_7;clear HO_8;clear HB;have HO_7:=n0_;have HO_8:=n1_;have HB:=n2_;have BK250:=n3_;have GW250:=n4_;have GE250:=n5_;clear n0_ n1_ n2_ n3_ n4_ n5_;clear hb hbox hg;have hcz17_0 : w16.cell? ⟨gb250,0,none⟩ = some (.int .i64 0):=(blk_cell BK250.out 0).trans rfl;have hcz17_1 : w16.cell? ⟨gb250,1,none⟩ = some (.int .i64 0):=(blk_cell BK250.out 1).trans rfl;have hfz17_0:=blk_frozen BK250.out 0;have hfz17_1:=blk_frozen BK250.out 1;obtain ⟨Ao18,co18,eo18⟩ := Kd.R_slice HO_7.out;subst eo18;have p251 : 0 ≤ (x20_1 : Int):=of_decide_eq_true (by first | (with_reducible assumption) | assumption);have q251 : x20_1 < (t243.length : Int):=of_decide_eq_true (by first | (with_reducible assumption) | assumption);obtain ⟨ad251,e251,hx251_0⟩ := Kd.at_int (Kd.R_reads' HO_7.out).2.2 x20_1 p251 q251;cases e251;have hn251_0 : ad251.block ≠ gb250:=Kd.own_blk (Kd.R_ne HO_7.out BK250.out (by decide));have hn251_1 : ad251.block ≠ gb250:=Kd.own_blk (Kd.R_ne HO_7.out BK250.out (by decide));replace hx251_0:=(cell_far (p:=⟨gb250,0,none⟩) (by first | (rw [add_block];exact hn251_0) | (show (Addr.add _ _).block ≠ _;rw [add_block];exact hn251_0) | exact hn251_0) (.int .i64 ((rd_T70 l0 x20_1).f0))).trans hx251_0;replace hx251_0:=(cell_far (p:=⟨gb250,1,none⟩) (by first | (rw [add_block];exact hn251_1) | (show (Addr.add _ _).block ≠ _;rw [add_block];exact hn251_1) | exact hn251_1) (.int .i64 ((rd_T70 l0 x20_1).f1))).trans hx251_0;(try have hy251_0:=fun (n_ : Nat) => (show ((((w16.drewN n_).setCell ⟨gb250,0,none⟩ (.int .i64 ((rd_T70 l0 x20_1).f0))).setCell ⟨gb250,1,none⟩ (.int .i64 ((rd_T70 l0 x20_1).f1)))).cell? _ = some _ from hx251_0));clear hn251_0;clear hn251_1;replace p251:=eq_true p251;replace q251:=eq_true q251;obtain ⟨Ao19,co19,eo19⟩ := Kd.R_slice HO_8.out;subst eo19;have p252 : 0 ≤ (x20_1 : Int):=of_decide_eq_true (by first | (with_reducible assumption) | assumption);have q252 : x20_1 < (t244.length : Int):=of_decide_eq_true (by first | (with_reducible assumption) | assumption);obtain ⟨ad252,e252,hx252_0⟩ := Kd.at_int (Kd.R_reads' HO_8.out).2.2 x20_1 p252 q252;cases e252;have hn252_0 : ad252.block ≠ gb250:=Kd.own_blk (Kd.R_ne HO_8.out BK250.out (by decide));have hn252_1 : ad252.block ≠ gb250:=Kd.own_blk (Kd.R_ne HO_8.out BK250.out (by decide));replace hx252_0:=(cell_far (p:=⟨gb250,0,none⟩) (by first | (rw [add_block];exact hn252_0) | (show (Addr.add _ _).block ≠ _;rw [add_block];exact hn252_0) | exact hn252_0) (.int .i64 ((rd_T70 l0 x20_1).f0))).trans hx252_0;replace hx252_0:=(cell_far (p:=⟨gb250,1,none⟩) (by first | (rw [add_block];exact hn252_1) | (show (Addr.add _ _).block ≠ _;rw [add_block];exact hn252_1) | exact hn252_1) (.int .i64 ((rd_T70 l0 x20_1).f1))).trans hx252_0;(try have hy252_0:=fun (n_ : Nat) => (show ((((w16.drewN n_).setCell ⟨gb250,0,none⟩ (.int .i64 ((rd_T70 l0 x20_1).f0))).setCell ⟨gb250,1,none⟩ (.int .i64 ((rd_T70 l0 x20_1).f1)))).cell? _ = some _ from hx252_0));clear hn252_0;clear hn252_1;replace p252:=eq_true p252;replace q252:=eq_true q252));try go_wp2_with (first | ((with_reducible refine gate_dst (N:=10) rfl ?_);refine box_event ?hg (N:=10) ?hd (cs:=#[.int .i64 0, .int .i64 0]) (t:=70) ?hr ?_;(case hd => rfl);(case hg => rfl);(case hr => first | (go_simp;done) | (go_simp;rfl));intro gb250 hg w16 hbox hb;have n0_:=Aside0.mk (Kd.R_below (by (with_reducible repeat (first | apply Kd.R_alloc | apply Kd.R_drewN | apply Kd.R_drew));exact HO_7.out) hb);have n1_:=Aside0.mk (Kd.R_below (by (with_reducible repeat (first | apply Kd.R_alloc | apply Kd.R_drewN | apply Kd.R_drew));exact HO_8.out) hb);have n2_:=Aside0.mk (below_step (by repeat (first | (with_reducible first | exact HB.out | apply below_alloc | apply pw_below_drewN | apply below_drew1) | exact HB.out)) hb);have n3_:=Aside0.mk (hbox);have n4_:=Aside0.mk ((by rw [hg];exact (below_size (by repeat (first | (with_reducible first | exact HB.out | apply below_alloc | apply pw_below_drewN | apply below_drew1) | exact HB.out))) : w.heap.size ≤ gb250));have n5_:=Aside0.mk ((by rw [hg];exact (below_size (by repeat (first | (with_reducible first | exact HB.out | apply below_alloc | apply pw_below_drewN | apply below_drew1) | exact HB.out))) : w.heap.size ≤ gb250));clear HO_7;clear HO_8;clear HB;have HO_7:=n0_;have HO_8:=n1_;have HB:=n2_;have BK250:=n3_;have GW250:=n4_;have GE250:=n5_;clear n0_ n1_ n2_ n3_ n4_ n5_;clear hb hbox hg;have hcz17_0 : w16.cell? ⟨gb250,0,none⟩ = some (.int .i64 0):=(blk_cell BK250.out 0).trans rfl;have hcz17_1 : w16.cell? ⟨gb250,1,none⟩ = some (.int .i64 0):=(blk_cell BK250.out 1).trans rfl;have hfz17_0:=blk_frozen BK250.out 0;have hfz17_1:=blk_frozen BK250.out 1;obtain ⟨Ao18,co18,eo18⟩ := Kd.R_slice HO_7.out;subst eo18;have p251 : 0 ≤ (x20_1 : Int):=of_decide_eq_true (by first | (with_reducible assumption) | assumption);have q251 : x20_1 < (t243.length : Int):=of_decide_eq_true (by first | (with_reducible assumption) | assumption);obtain ⟨ad251,e251,hx251_0⟩ := Kd.at_int (Kd.R_reads' HO_7.out).2.2 x20_1 p251 q251;cases e251;have hn251_0 : ad251.block ≠ gb250:=Kd.own_blk (Kd.R_ne HO_7.out BK250.out (by decide));have hn251_1 : ad251.block ≠ gb250:=Kd.own_blk (Kd.R_ne HO_7.out BK250.out (by decide));replace hx251_0:=(cell_far (p:=⟨gb250,0,none⟩) (by first | (rw [add_block];exact hn251_0) | (show (Addr.add _ _).block ≠ _;rw [add_block];exact hn251_0) | exact hn251_0) (.int .i64 ((rd_T70 l0 x20_1).f0))).trans hx251_0;replace hx251_0:=(cell_far (p:=⟨gb250,1,none⟩) (by first | (rw [add_block];exact hn251_1) | (show (Addr.add _ _).block ≠ _;rw [add_block];exact hn251_1) | exact hn251_1) (.int .i64 ((rd_T70 l0 x20_1).f1))).trans hx251_0;(try have hy251_0:=fun (n_ : Nat) => (show ((((w16.drewN n_).setCell ⟨gb250,0,none⟩ (.int .i64 ((rd_T70 l0 x20_1).f0))).setCell ⟨gb250,1,none⟩ (.int .i64 ((rd_T70 l0 x20_1).f1)))).cell? _ = some _ from hx251_0));clear hn251_0;clear hn251_1;replace p251:=eq_true p251;replace q251:=eq_true q251;obtain ⟨Ao19,co19,eo19⟩ := Kd.R_slice HO_8.out;subst eo19;have p252 : 0 ≤ (x20_1 : Int):=of_decide_eq_true (by first | (with_reducible assumption) | assumption);have q252 : x20_1 < (t244.length : Int):=of_decide_eq_true (by first | (with_reducible assumption) | assumption);obtain ⟨ad252,e252,hx252_0⟩ := Kd.at_int (Kd.R_reads' HO_8.out).2.2 x20_1 p252 q252;cases e252;have hn252_0 : ad252.block ≠ gb250:=Kd.own_blk (Kd.R_ne HO_8.out BK250.out (by decide));have hn252_1 : ad252.block ≠ gb250:=Kd.own_blk (Kd.R_ne HO_8.out BK250.out (by decide));replace hx252_0:=(cell_far (p:=⟨gb250,0,none⟩) (by first | (rw [add_block];exact hn252_0) | (show (Addr.add _ _).block ≠ _;rw [add_block];exact hn252_0) | exact hn252_0) (.int .i64 ((rd_T70 l0 x20_1).f0))).trans hx252_0;replace hx252_0:=(cell_far (p:=⟨gb250,1,none⟩) (by first | (rw [add_block];exact hn252_1) | (show (Addr.add _ _).block ≠ _;rw [add_block];exact hn252_1) | exact hn252_1) (.int .i64 ((rd_T70 l0 x20_1).f1))).trans hx252_0;(try have hy252_0:=fun (n_ : Nat) => (show ((((w16.drewN n_).setCell ⟨gb250,0,none⟩ (.int .i64 ((rd_T70 l0 x20_1).f0))).setCell ⟨gb250,1,none⟩ (.int .i64 ((rd_T70 l0 x20_1).f1)))).cell? _ = some _ from hx252_0));clear hn252_0;clear hn252_1;replace p252:=eq_true p252;replace q252:=eq_true q252)))
          go_ret
          exact ⟨by first | rfl | (simp [errW_none,errW_some] <;> rfl) | (simp [*,errW_none,errW_some] <;> rfl),by repeat (first | (with_reducible first | exact HB.out | apply below_alloc | apply pw_below_drewN | apply below_drew1 | refine below_set ?_ GE250.out) | exact HB.out)⟩
         ·rw [if_neg c15] at H
          have c15b0 : decide (((rd_T70 l0 x20_1).f1) < (rd t244 x20_1)) = false:=decide_eq_false c15
          clear c15
          have H':=Aside0.mk H
          clear H
          have p249 : 0 ≤ (x20_1 : Int):=of_decide_eq_true (by first | (with_reducible assumption) | assumption)
          have q249 : x20_1 < (l0.length : Int):=of_decide_eq_true (by first | (with_reducible assumption) | assumption)
          obtain ⟨ad249,e249,hx249_0,hx249_1⟩ := at_T70 HR0.out x20_1 p249 q249
          cases e249
          replace hx249_0:=(HB.out.cell (World.block_lt_of_cell? w _ hx249_0)).trans hx249_0
          replace hx249_1:=(HB.out.cell (World.block_lt_of_cell? w _ hx249_1)).trans hx249_1
          replace p249:=eq_true p249
          replace q249:=eq_true q249
          go_wp2_with (first | ((with_reducible refine gate_dst (N:=10) rfl ?_);refine box_event ?hg (N:=10) ?hd (cs:=#[.int .i64 0, .int .i64 0]) (t:=70) ?hr ?_;(case hd => rfl);(case hg => rfl);(case hr => first | (go_simp;done) | (go_simp;rfl));intro gb250 hg w20 hbox hb;have n0_:=Aside0.mk (Kd.R_below (by (with_reducible repeat (first | apply Kd.R_alloc | apply Kd.R_drewN | apply Kd.R_drew));exact HO_7.out) hb);have n1_:=Aside0.mk (Kd.R_below (by (with_reducible repeat (first | apply Kd.R_alloc | apply Kd.R_drewN | apply Kd.R_drew));exact HO_8.out) hb);have n2_:=Aside0.mk (below_step (by repeat (first | (with_reducible first | exact HB.out | apply below_alloc | apply pw_below_drewN | apply below_drew1) | exact HB.out)) hb);have n3_:=Aside0.mk (hbox);have n4_:=Aside0.mk ((by rw [hg];exact (below_size (by repeat (first | (with_reducible first | exact HB.out | apply below_alloc | apply pw_below_drewN | apply below_drew1) | exact HB.out))) : w.heap.size ≤ gb250));have n5_:=Aside0.mk ((by rw [hg];exact (below_size (by repeat (first | (with_reducible first | exact HB.out | apply below_alloc | apply pw_below_drewN | apply below_drew1) | exact HB.out))) : w.heap.size ≤ gb250));clear HO_7;clear HO_8;clear HB;have HO_7:=n0_;have HO_8:=n1_;have HB:=n2_;have BK250:=n3_;have GW250:=n4_;have GE250:=n5_;clear n0_ n1_ n2_ n3_ n4_ n5_;clear hb hbox hg;have hcz21_0 : w20.cell? ⟨gb250,0,none⟩ = some (.int .i64 0):=(blk_cell BK250.out 0).trans rfl;have hcz21_1 : w20.cell? ⟨gb250,1,none⟩ = some (.int .i64 0):=(blk_cell BK250.out 1).trans rfl;have hfz21_0:=blk_frozen BK250.out 0;have hfz21_1:=blk_frozen BK250.out 1;obtain ⟨Ao22,co22,eo22⟩ := Kd.R_slice HO_7.out;subst eo22;have p251 : 0 ≤ (x20_1 : Int):=of_decide_eq_true (by first | (with_reducible assumption) | assumption);have q251 : x20_1 < (t243.length : Int):=of_decide_eq_true (by first | (with_reducible assumption) | assumption);obtain ⟨ad251,e251,hx251_0⟩ := Kd.at_int (Kd.R_reads' HO_7.out).2.2 x20_1 p251 q251;cases e251;have hn251_0 : ad251.block ≠ gb250:=Kd.own_blk (Kd.R_ne HO_7.out BK250.out (by decide));have hn251_1 : ad251.block ≠ gb250:=Kd.own_blk (Kd.R_ne HO_7.out BK250.out (by decide));replace hx251_0:=(cell_far (p:=⟨gb250,0,none⟩) (by first | (rw [add_block];exact hn251_0) | (show (Addr.add _ _).block ≠ _;rw [add_block];exact hn251_0) | exact hn251_0) (.int .i64 ((rd_T70 l0 x20_1).f0))).trans hx251_0;replace hx251_0:=(cell_far (p:=⟨gb250,1,none⟩) (by first | (rw [add_block];exact hn251_1) | (show (Addr.add _ _).block ≠ _;rw [add_block];exact hn251_1) | exact hn251_1) (.int .i64 ((rd_T70 l0 x20_1).f1))).trans hx251_0;(try have hy251_0:=fun (n_ : Nat) => (show ((((w20.drewN n_).setCell ⟨gb250,0,none⟩ (.int .i64 ((rd_T70 l0 x20_1).f0))).setCell ⟨gb250,1,none⟩ (.int .i64 ((rd_T70 l0 x20_1).f1)))).cell? _ = some _ from hx251_0));clear hn251_0;clear hn251_1;replace p251:=eq_true p251;replace q251:=eq_true q251;obtain ⟨Ao23,co23,eo23⟩ := Kd.R_slice HO_8.out;subst eo23;have p252 : 0 ≤ (x20_1 : Int):=of_decide_eq_true (by first | (with_reducible assumption) | assumption);have q252 : x20_1 < (t244.length : Int):=of_decide_eq_true (by first | (with_reducible assumption) | assumption);obtain ⟨ad252,e252,hx252_0⟩ := Kd.at_int (Kd.R_reads' HO_8.out).2.2 x20_1 p252 q252;cases e252;have hn252_0 : ad252.block ≠ gb250:=Kd.own_blk (Kd.R_ne HO_8.out BK250.out (by decide));have hn252_1 : ad252.block ≠ gb250:=Kd.own_blk (Kd.R_ne HO_8.out BK250.out (by decide));replace hx252_0:=(cell_far (p:=⟨gb250,0,none⟩) (by first | (rw [add_block];exact hn252_0) | (show (Addr.add _ _).block ≠ _;rw [add_block];exact hn252_0) | exact hn252_0) (.int .i64 ((rd_T70 l0 x20_1).f0))).trans hx252_0;replace hx252_0:=(cell_far (p:=⟨gb250,1,none⟩) (by first | (rw [add_block];exact hn252_1) | (show (Addr.add _ _).block ≠ _;rw [add_block];exact hn252_1) | exact hn252_1) (.int .i64 ((rd_T70 l0 x20_1).f1))).trans hx252_0;(try have hy252_0:=fun (n_ : Nat) => (show ((((w20.drewN n_).setCell ⟨gb250,0,none⟩ (.int .i64 ((rd_T70 l0 x20_1).f0))).setCell ⟨gb250,1,none⟩ (.int .i64 ((rd_T70 l0 x20_1).f1)))).cell? _ = some _ from hx252_0));clear hn252_0;clear hn252_1;replace p252:=eq_true p252;replace q252:=eq_true q252))
          repeat (go_quiet (first | ((with_reducible refine gate_dst (N:=10) rfl ?_);refine box_event ?hg (N:=10) ?hd (cs:=#[.int .i64 0, .int .i64 0]) (t:=70) ?hr ?_;(case hd => rfl);(case hg => rfl);(case hr => first | (go_simp;done) | (go_simp;rfl));intro gb250 hg w20 hbox hb;have n0_:=Aside0.mk (Kd.R_below (by (with_reducible repeat (first | apply Kd.R_alloc | apply Kd.R_drewN | apply Kd.R_drew));exact HO_7.out) hb);have n1_:=Aside0.mk (Kd.R_below (by (with_reducible repeat (first | apply Kd.R_alloc | apply Kd.R_drewN | apply Kd.R_drew));exact HO_8.out) hb);have n2_:=Aside0.mk (below_step (by repeat (first | (with_reducible first | exact HB.out | apply below_alloc | apply pw_below_drewN | apply below_drew1) | exact HB.out)) hb);have n3_:=Aside0.mk (hbox);have n4_:=Aside0.mk ((by rw [hg];exact (below_size (by repeat (first | (with_reducible first | exact HB.out | apply below_alloc | apply pw_below_drewN | apply below_drew1) | exact HB.out))) : w.heap.size ≤ gb250));have n5_:=Aside0.mk ((by rw [hg];exact (below_size (by repeat (first | (with_reducible first | exact HB.out | apply below_alloc | apply pw_below_drewN | apply below_drew1) | exact HB.out))) : w.heap.size ≤ gb250));clear HO_7;clear HO_8;clear HB;have HO_7:=n0_;have HO_8:=n1_;have HB:=n2_;have BK250:=n3_;have GW250:=n4_;have GE250:=n5_;clear n0_ n1_ n2_ n3_ n4_ n5_;clear hb hbox hg;have hcz21_0 : w20.cell? ⟨gb250,0,none⟩ = some (.int .i64 0):=(blk_cell BK250.out 0).trans rfl;have hcz21_1 : w20.cell? ⟨gb250,1,none⟩ = some (.int .i64 0):=(blk_cell BK250.out 1).trans rfl;have hfz21_0:=blk_frozen BK250.out 0;have hfz21_1:=blk_frozen BK250.out 1;obtain ⟨Ao22,co22,eo22⟩ := Kd.R_slice HO_7.out;subst eo22;have p251 : 0 ≤ (x20_1 : Int):=of_decide_eq_true (by first | (with_reducible assumption) | assumption);have q251 : x20_1 < (t243.length : Int):=of_decide_eq_true (by first | (with_reducible assumption) | assumption);obtain ⟨ad251,e251,hx251_0⟩ := Kd.at_int (Kd.R_reads' HO_7.out).2.2 x20_1 p251 q251;cases e251;have hn251_0 : ad251.block ≠ gb250:=Kd.own_blk (Kd.R_ne HO_7.out BK250.out (by decide));have hn251_1 : ad251.block ≠ gb250:=Kd.own_blk (Kd.R_ne HO_7.out BK250.out (by decide));replace hx251_0:=(cell_far (p:=⟨gb250,0,none⟩) (by first | (rw [add_block];exact hn251_0) | (show (Addr.add _ _).block ≠ _;rw [add_block];exact hn251_0) | exact hn251_0) (.int .i64 ((rd_T70 l0 x20_1).f0))).trans hx251_0;replace hx251_0:=(cell_far (p:=⟨gb250,1,none⟩) (by first | (rw [add_block];exact hn251_1) | (show (Addr.add _ _).block ≠ _;rw [add_block];exact hn251_1) | exact hn251_1) (.int .i64 ((rd_T70 l0 x20_1).f1))).trans hx251_0;(try have hy251_0:=fun (n_ : Nat) => (show ((((w20.drewN n_).setCell ⟨gb250,0,none⟩ (.int .i64 ((rd_T70 l0 x20_1).f0))).setCell ⟨gb250,1,none⟩ (.int .i64 ((rd_T70 l0 x20_1).f1)))).cell? _ = some _ from hx251_0));clear hn251_0;clear hn251_1;replace p251:=eq_true p251;replace q251:=eq_true q251;obtain ⟨Ao23,co23,eo23⟩ := Kd.R_slice HO_8.out;subst eo23;have p252 : 0 ≤ (x20_1 : Int):=of_decide_eq_true (by first | (with_reducible assumption) | assumption);have q252 : x20_1 < (t244.length : Int):=of_decide_eq_true (by first | (with_reducible assumption) | assumption);obtain ⟨ad252,e252,hx252_0⟩ := Kd.at_int (Kd.R_reads' HO_8.out).2.2 x20_1 p252 q252;cases e252;have hn252_0 : ad252.block ≠ gb250:=Kd.own_blk (Kd.R_ne HO_8.out BK250.out (by decide));have hn252_1 : ad252.block ≠ gb250:=Kd.own_blk (Kd.R_ne HO_8.out BK250.out (by decide));replace hx252_0:=(cell_far (p:=⟨gb250,0,none⟩) (by first | (rw [add_block];exact hn252_0) | (show (Addr.add _ _).block ≠ _;rw [add_block];exact hn252_0) | exact hn252_0) (.int .i64 ((rd_T70 l0 x20_1).f0))).trans hx252_0;replace hx252_0:=(cell_far (p:=⟨gb250,1,none⟩) (by first | (rw [add_block];exact hn252_1) | (show (Addr.add _ _).block ≠ _;rw [add_block];exact hn252_1) | exact hn252_1) (.int .i64 ((rd_T70 l0 x20_1).f1))).trans hx252_0;(try have hy252_0:=fun (n_ : Nat) => (show ((((w20.drewN n_).setCell ⟨gb250,0,none⟩ (.int .i64 ((rd_T70 l0 x20_1).f0))).setCell ⟨gb250,1,none⟩ (.int .i64 ((rd_T70 l0 x20_1).f1)))).cell? _ = some _ from hx252_0));clear hn252_0;clear hn252_1;replace p252:=eq_true p252;replace q252:=eq_true q252));try go_wp2_with (first | ((with_reducible refine gate_dst (N:=10) rfl ?_);refine box_event ?hg (N:=10) ?hd (cs:=#[.int .i64 0, .int .i64 0]) (t:=70) ?hr ?_;(case hd => rfl);(case hg => rfl);(case hr => first | (go_simp;done) | (go_simp;rfl));intro gb250 hg w20 hbox hb;have n0_:=Aside0.mk (Kd.R_below (by (with_reducible repeat (first | apply Kd.R_alloc | apply Kd.R_drewN | apply Kd.R_drew));exact HO_7.out) hb);have n1_:=Aside0.mk (Kd.R_below (by (with_reducible repeat (first | apply Kd.R_alloc | apply Kd.R_drewN | apply Kd.R_drew));exact HO_8.out) hb);have n2_:=Aside0.mk (below_step (by repeat (first | (with_reducible first | exact HB.out | apply below_alloc | apply pw_below_drewN | apply below_drew1) | exact HB.out)) hb);have n3_:=Aside0.mk (hbox);have n4_:=Aside0.mk ((by rw [hg];exact (below_size (by repeat (first | (with_reducible first | exact HB.out | apply below_alloc | apply pw_below_drewN | apply below_drew1) | exact HB.out))) : w.heap.size ≤ gb250));have n5_:=Aside0.mk ((by rw [hg];exact (below_size (by repeat (first | (with_reducible first | exact HB.out | apply below_alloc | apply pw_below_drewN | apply below_drew1) | exact HB.out))) : w.heap.size ≤ gb250));clear HO_7;clear HO_8;clear HB;have HO_7:=n0_;have HO_8:=n1_;have HB:=n2_;have BK250:=n3_;have GW250:=n4_;have GE250:=n5_;clear n0_ n1_ n2_ n3_ n4_ n5_;clear hb hbox hg;have hcz21_0 : w20.cell? ⟨gb250,0,none⟩ = some (.int .i64 0):=(blk_cell BK250.out 0).trans rfl;have hcz21_1 : w20.cell? ⟨gb250,1,none⟩ = some (.int .i64 0):=(blk_cell BK250.out 1).trans rfl;have hfz21_0:=blk_frozen BK250.out 0;have hfz21_1:=blk_frozen BK250.out 1;obtain ⟨Ao22,co22,eo22⟩ := Kd.R_slice HO_7.out;subst eo22;have p251 : 0 ≤ (x20_1 : Int):=of_decide_eq_true (by first | (with_reducible assumption) | assumption);have q251 : x20_1 < (t243.length : Int):=of_decide_eq_true (by first | (with_reducible assumption) | assumption);obtain ⟨ad251,e251,hx251_0⟩ := Kd.at_int (Kd.R_reads' HO_7.out).2.2 x20_1 p251 q251;cases e251;have hn251_0 : ad251.block ≠ gb250:=Kd.own_blk (Kd.R_ne HO_7.out BK250.out (by decide));have hn251_1 : ad251.block ≠ gb250:=Kd.own_blk (Kd.R_ne HO_7.out BK250.out (by decide));replace hx251_0:=(cell_far (p:=⟨gb250,0,none⟩) (by first | (rw [add_block];exact hn251_0) | (show (Addr.add _ _).block ≠ _;rw [add_block];exact hn251_0) | exact hn251_0) (.int .i64 ((rd_T70 l0 x20_1).f0))).trans hx251_0;replace hx251_0:=(cell_far (p:=⟨gb250,1,none⟩) (by first | (rw [add_block];exact hn251_1) | (show (Addr.add _ _).block ≠ _;rw [add_block];exact hn251_1) | exact hn251_1) (.int .i64 ((rd_T70 l0 x20_1).f1))).trans hx251_0;(try have hy251_0:=fun (n_ : Nat) => (show ((((w20.drewN n_).setCell ⟨gb250,0,none⟩ (.int .i64 ((rd_T70 l0 x20_1).f0))).setCell ⟨gb250,1,none⟩ (.int .i64 ((rd_T70 l0 x20_1).f1)))).cell? _ = some _ from hx251_0));clear hn251_0;clear hn251_1;replace p251:=eq_true p251;replace q251:=eq_true q251;obtain ⟨Ao23,co23,eo23⟩ := Kd.R_slice HO_8.out;subst eo23;have p252 : 0 ≤ (x20_1 : Int):=of_decide_eq_true (by first | (with_reducible assumption) | assumption);have q252 : x20_1 < (t244.length : Int):=of_decide_eq_true (by first | (with_reducible assumption) | assumption);obtain ⟨ad252,e252,hx252_0⟩ := Kd.at_int (Kd.R_reads' HO_8.out).2.2 x20_1 p252 q252;cases e252;have hn252_0 : ad252.block ≠ gb250:=Kd.own_blk (Kd.R_ne HO_8.out BK250.out (by decide));have hn252_1 : ad252.block ≠ gb250:=Kd.own_blk (Kd.R_ne HO_8.out BK250.out (by decide));replace hx252_0:=(cell_far (p:=⟨gb250,0,none⟩) (by first | (rw [add_block];exact hn252_0) | (show (Addr.add _ _).block ≠ _;rw [add_block];exact hn252_0) | exact hn252_0) (.int .i64 ((rd_T70 l0 x20_1).f0))).trans hx252_0;replace hx252_0:=(cell_far (p:=⟨gb250,1,none⟩) (by first | (rw [add_block];exact hn252_1) | (show (Addr.add _ _).block ≠ _;rw [add_block];exact hn252_1) | exact hn252_1) (.int .i64 ((rd_T70 l0 x20_1).f1))).trans hx252_0;(try have hy252_0:=fun (n_ : Nat) => (show ((((w20.drewN n_).setCell ⟨gb250,0,none⟩ (.int .i64 ((rd_T70 l0 x20_1).f0))).setCell ⟨gb250,1,none⟩ (.int .i64 ((rd_T70 l0 x20_1).f1)))).cell? _ = some _ from hx252_0));clear hn252_0;clear hn252_1;replace p252:=eq_true p252;replace q252:=eq_true q252)))
          go_roundg k1
          case measure => have:=HK1.out;omega
          case rel => exact ⟨(wrap64 (x20_1 + 1)),(by first | rfl | (simp;done) | (simp [*];done)),H',⟨by have:=HK1.out;omega⟩,⟨by (with_reducible repeat (first | apply Kd.R_alloc | apply Kd.R_drewN | apply Kd.R_drew));exact Kd.R_mono (Kd.R_far (p:=⟨gb250,1,none⟩) (Kd.R_far (p:=⟨gb250,0,none⟩) (Kd.R_types HO_7.out BK250.out (by decide)) (fun _ hk => hk.2) (.int .i64 ((rd_T70 l0 x20_1).f0))) (fun _ hk => hk.2) (.int .i64 ((rd_T70 l0 x20_1).f1))) (fun _ hk => hk.1)⟩,⟨by (with_reducible repeat (first | apply Kd.R_alloc | apply Kd.R_drewN | apply Kd.R_drew));exact Kd.R_mono (Kd.R_far (p:=⟨gb250,1,none⟩) (Kd.R_far (p:=⟨gb250,0,none⟩) (Kd.R_types HO_8.out BK250.out (by decide)) (fun _ hk => hk.2) (.int .i64 ((rd_T70 l0 x20_1).f0))) (fun _ hk => hk.2) (.int .i64 ((rd_T70 l0 x20_1).f1))) (fun _ hk => hk.1)⟩,⟨by repeat (first | (with_reducible first | exact HB.out | apply below_alloc | apply pw_below_drewN | apply below_drew1 | refine below_set ?_ GE250.out) | exact HB.out)⟩⟩
        ·rw [if_neg c14] at H
         exact absurd H (by simp)
      ·rw [if_neg c9] at H
       exact absurd H (by simp)
     ·rw [if_neg c8] at H
      exact absurd H (by simp)
    ·rw [if_neg c7] at H
     exact absurd H (by simp)
   ·rw [if_neg c6] at H
    have c6b0 : decide (x20_1 < (l0.length : Int)) = false:=decide_eq_false c6
    clear c6
    obtain rfl:=Option.some.inj H
    go_wp2
    repeat (go_quiet (fail);try go_wp2)
    go_ret
    exact ⟨by first | rfl | (simp [errW_none,errW_some] <;> rfl) | (simp [*,errW_none,errW_some] <;> rfl),by repeat (first | (with_reducible first | exact HB.out | apply below_alloc | apply pw_below_drewN | apply below_drew1) | exact HB.out)⟩

/-! ### impl_IsValidLoading: function 24 -/
def impl_IsValidLoading.j0 : Nat → List (S64) → List Int → Bool → List (S70) → Option (Bool)
 | 0,_,_,_,_ => none
 | k + 1,x1,x2,x21,x254000 => if x21 = true then (some false) else ((slices_ContainsFunc_int.f k x2 x254000).bind fun t256 => (if t256 = true then (some false) else ((impl_isLoaded.f k x254000 x1 x2).bind fun t257 => (some t257))))
def impl_IsValidLoading.f (k : Nat) (l0 : List (S70)) (l1 : List (S64)) (l2 : List Int) : Option (Bool):=(impl_IsValidTrain.f k l0).bind fun t254 => (if t254 = true then ((impl_IsValidContainers.f k l1).bind fun t255 => (if t255 = true then (impl_IsValidLoading.j0 k l1 l2 ((l2.length : Int) != (l1.length : Int)) l0) else (impl_IsValidLoading.j0 k l1 l2 true l0))) else (impl_IsValidLoading.j0 k l1 l2 true l0))
theorem impl_IsValidLoading.mono_l : ∀ k,(∀ y0 y1 y2 y3,LeO (impl_IsValidLoading.j0 k y0 y1 y2 y3) (impl_IsValidLoading.j0 (k + 1) y0 y1 y2 y3))
 | 0 => fun _ _ _ _ r h => by simp [impl_IsValidLoading.j0] at h
 | k + 1 => by
  have ih0:=impl_IsValidLoading.mono_l k
  ·intro y0 y1 y2 y3
   unfold impl_IsValidLoading.j0
   repeat' first
   | (with_reducible exact ih0 _ _ _ _)
   | (with_reducible exact impl_IsValidContainers.mono _ _)
   | (with_reducible exact impl_IsValidTrain.mono _ _)
   | (with_reducible exact impl_isLoaded.mono _ _ _ _)
   | (with_reducible exact slices_ContainsFunc_int.mono _ _ _)
   | (with_reducible exact LeO.refl _)
   | (with_reducible exact LeO.none _)
   | (with_reducible refine LeO.ite ?_ ?_)
   | (with_reducible refine LeO.bind ?_ (fun _ => ?_))
   | exact ih0 _ _ _ _
   | exact impl_IsValidContainers.mono _ _
   | exact impl_IsValidTrain.mono _ _
   | exact impl_isLoaded.mono _ _ _ _
   | exact slices_ContainsFunc_int.mono _ _ _
   | exact LeO.none _
   | refine LeO.ite ?_ ?_
   | refine LeO.bind ?_ (fun _ => ?_)
theorem impl_IsValidLoading.mono : ∀ a0 a1 a2 k,LeO (impl_IsValidLoading.f k a0 a1 a2) (impl_IsValidLoading.f (k + 1) a0 a1 a2):=by
 intro a0 a1 a2 k
 have ih0:=impl_IsValidLoading.mono_l k
 unfold impl_IsValidLoading.f
 repeat' first
   | (with_reducible exact ih0 _ _ _ _)
   | (with_reducible exact impl_IsValidContainers.mono _ _)
   | (with_reducible exact impl_IsValidTrain.mono _ _)
   | (with_reducible exact impl_isLoaded.mono _ _ _ _)
   | (with_reducible exact slices_ContainsFunc_int.mono _ _ _)
   | (with_reducible exact LeO.refl _)
   | (with_reducible exact LeO.none _)
   | (with_reducible refine LeO.ite ?_ ?_)
   | (with_reducible refine LeO.bind ?_ (fun _ => ?_))
   | exact ih0 _ _ _ _
   | exact impl_IsValidContainers.mono _ _
   | exact impl_IsValidTrain.mono _ _
   | exact impl_isLoaded.mono _ _ _ _
   | exact slices_ContainsFunc_int.mono _ _ _
   | exact LeO.none _
   | refine LeO.ite ?_ ?_
   | refine LeO.bind ?_ (fun _ => ?_)
set_option maxHeartbeats 8000000 in
set_option maxRecDepth 100000 in
theorem impl_IsValidLoading.calls (k : Nat) (A0 : Option Addr) (c0 : Nat) (l0 : List (S70)) (A1 : Option Addr) (c1 : Nat) (l1 : List (S64)) (A2 : Option Addr) (c2 : Nat) (l2 : List Int) (r : Bool) (w : World) (hr0 : Kd.C k70 w A0 l0.length l0) (hc0 : l0.length ≤ c0) (hr1 : Kd.C k64 w A1 l1.length l1) (hc1 : l1.length ≤ c1) (hr2 : Kd.C (Kd.int .i64) w A2 l2.length l2) (hc2 : l2.length ≤ c2) (h : impl_IsValidLoading.f k l0 l1 l2 = some r) :
  Calls Try.prog 24 #[.slice A0 l0.length c0, .slice A1 l1.length c1, .slice A2 l2.length c2] w fun e w' => e = .returned (.bool r) ∧ Below w.heap.size w w':=by
 have HR0:=Aside0.mk hr0
 have HC0:=Aside0.mk hc0
 clear hr0 hc0
 have HR1:=Aside0.mk hr1
 have HC1:=Aside0.mk hc1
 clear hr1 hc1
 have HR2:=Aside0.mk hr2
 have HC2:=Aside0.mk hc2
 clear hr2 hc2
 have HB:=Aside0.mk (Below.refl w.heap.size w)
 have H : ((impl_IsValidTrain.f k l0).bind fun t254 => (if t254 = true then ((impl_IsValidContainers.f k l1).bind fun t255 => (if t255 = true then (impl_IsValidLoading.j0 k l1 l2 ((l2.length : Int) != (l1.length : Int)) l0) else (impl_IsValidLoading.j0 k l1 l2 true l0))) else (impl_IsValidLoading.j0 k l1 l2 true l0))) = some r:=h
 clear h
 have HC4:=Aside0.mk H
 clear H
 go_enter Try.func24,Try.ntmps24
 go_upto_region 1 with (first | ((with_reducible refine gate_dst (N:=3) rfl ?_);(try (refine gate_guard (by rfl) ?_;dsimp only));refine box_event ?hg (N:=3) ?hd (cs:=#[.slice A0 l0.length c0]) (t:=25) ?hr ?_;(case hd => rfl);(case hg => rfl);(case hr => first | (go_simp;done) | (go_simp;rfl));intro gb253 hg w5 hbox hb;have n0_:=Aside0.mk (below_step (by repeat (first | (with_reducible first | exact HB.out | apply below_alloc | apply pw_below_drewN | apply below_drew1) | exact HB.out)) hb);have n1_:=Aside0.mk (hbox);have n2_:=Aside0.mk ((by rw [hg];exact (below_size (by repeat (first | (with_reducible first | exact HB.out | apply below_alloc | apply pw_below_drewN | apply below_drew1) | exact HB.out))) : w.heap.size ≤ gb253));have n3_:=Aside0.mk ((by rw [hg];exact (below_size (by repeat (first | (with_reducible first | exact HB.out | apply below_alloc | apply pw_below_drewN | apply below_drew1) | exact HB.out))) : w.heap.size ≤ gb253));clear HB;have HB:=n0_;have BK253:=n1_;have GW253:=n2_;have GE253:=n3_;clear n0_ n1_ n2_ n3_;clear hb hbox hg))
 (try simp only [Act.put,sA_,s0_,s1_])
 go_cut [21] (fun v21 wc => ∃ (kq : Nat) (x21_3 : Bool),v21 = .bool x21_3 ∧ Aside0 (impl_IsValidLoading.j0 kq l1 l2 x21_3 l0 = some r) ∧ Aside0 (kq ≤ k) ∧ Aside0 (wc.heap[gb253]? = some (.cells #[(.slice A0 l0.length c0)] 25 (0,0))) ∧ Aside0 (Below w.heap.size w wc))
 case first =>
  have H:=HC4.out
  clear HC4
  replace H:=Option.bind_eq_some_iff.mp H
  obtain ⟨t254,A60,H⟩ := H
  replace H : (if t254 = true then ((impl_IsValidContainers.f k l1).bind fun t255 => (if t255 = true then (impl_IsValidLoading.j0 k l1 l2 ((l2.length : Int) != (l1.length : Int)) l0) else (impl_IsValidLoading.j0 k l1 l2 true l0))) else (impl_IsValidLoading.j0 k l1 l2 true l0)) = some r:=H
  have A6:=Aside0.mk A60
  clear A60
  by_cases c7 : t254 = true
  ·subst c7
   have H1 : ((impl_IsValidContainers.f k l1).bind fun t255 => (if t255 = true then (impl_IsValidLoading.j0 k l1 l2 ((l2.length : Int) != (l1.length : Int)) l0) else (impl_IsValidLoading.j0 k l1 l2 true l0))) = some r:=by rw [if_pos rfl] at H;exact H
   clear H
   have H:=H1
   clear H1
   replace H:=Option.bind_eq_some_iff.mp H
   obtain ⟨t255,A80,H⟩ := H
   replace H : (if t255 = true then (impl_IsValidLoading.j0 k l1 l2 ((l2.length : Int) != (l1.length : Int)) l0) else (impl_IsValidLoading.j0 k l1 l2 true l0)) = some r:=H
   have A8:=Aside0.mk A80
   clear A80
   by_cases c9 : t255 = true
   ·subst c9
    have H1 : (impl_IsValidLoading.j0 k l1 l2 ((l2.length : Int) != (l1.length : Int)) l0) = some r:=by rw [if_pos rfl] at H;exact H
    clear H
    have H:=H1
    clear H1
    have H':=Aside0.mk H
    clear H
    have hcz10_0 : w5.cell? ⟨gb253,0,none⟩ = some (.slice A0 l0.length c0):=(blk_cell BK253.out 0).trans rfl
    have hfz10_0:=blk_frozen BK253.out 0
    go_wp2_with (first | ((with_reducible refine gate_callee (f:=18) rfl ?_);refine goesL_ (some 8) rfl rfl Try.func18 (by kernel_rfl) rfl #[.slice A0 l0.length c0] rfl (by (try simp only [List.map_toArray,List.map_cons,List.map_nil]);first | done | rfl | (simp only [List.length_drop,List.length_take];rfl)) ?_;(with_reducible refine (impl_IsValidTrain.calls k _ _ l0 true _ ?side1 ?side2 A6.out).mono ?_);(case side1 => repeat (first | exact (Kd.C_below HR0.out HB.out) | (with_reducible refine Kd.C_alloc ?_ _) | (with_reducible refine Kd.C_drewN ?_ _) | (with_reducible refine Kd.C_drew ?_)));(case side2 => exact HC0.out);rintro e w11 ⟨rfl,hb⟩;refine ⟨_,rfl, ?_⟩;have n0_:=Aside0.mk (blk_below (g:=gb253) (o := .cells #[.slice A0 l0.length c0] 25 (0,0)) (by (with_reducible repeat (first | refine blk_drewN ?_ _ | refine blk_drew ?_ | refine blk_alloc ?_ _));exact BK253.out) hb);have n1_:=Aside0.mk (below_step (by repeat (first | (with_reducible first | exact HB.out | apply below_alloc | apply pw_below_drewN | apply below_drew1 | refine below_set ?_ GE253.out) | exact HB.out)) hb);clear BK253;clear HB;have BK253:=n0_;have HB:=n1_;clear n0_ n1_;(try clear hb);(try clear hb2);(try clear hk);(try clear hi)) | (go_at_call 69;(with_reducible refine (impl_IsValidContainers.calls k _ _ l1 true _ ?side1 ?side2 A8.out).mono ?_);(case side1 => repeat (first | exact (Kd.C_below HR1.out HB.out) | (with_reducible refine Kd.C_alloc ?_ _) | (with_reducible refine Kd.C_drewN ?_ _) | (with_reducible refine Kd.C_drew ?_)));(case side2 => exact HC1.out);rintro e w12 ⟨rfl,hb⟩;have n0_:=Aside0.mk (blk_below (g:=gb253) (o := .cells #[.slice A0 l0.length c0] 25 (0,0)) (by (with_reducible repeat (first | refine blk_drewN ?_ _ | refine blk_drew ?_ | refine blk_alloc ?_ _));exact BK253.out) hb);have n1_:=Aside0.mk (below_step (by repeat (first | (with_reducible first | exact HB.out | apply below_alloc | apply pw_below_drewN | apply below_drew1 | refine below_set ?_ GE253.out) | exact HB.out)) hb);clear BK253;clear HB;have BK253:=n0_;have HB:=n1_;clear n0_ n1_;(try clear hb);(try clear hb2);(try clear hk);(try clear hi)))
    go_meet
    case rel => exact ⟨_,(((l2.length : Int) != (l1.length : Int))),(by first | rfl | (simp;done) | (simp [*];done)),H',⟨by first | omega | exact Nat.le_refl _⟩,⟨by (with_reducible repeat (first | refine blk_drewN ?_ _ | refine blk_drew ?_ | refine blk_alloc ?_ _));exact BK253.out⟩,⟨by repeat (first | (with_reducible first | exact HB.out | apply below_alloc | apply pw_below_drewN | apply below_drew1 | refine below_set ?_ GE253.out) | exact HB.out)⟩⟩
   ·replace c9:=Bool.eq_false_iff.mpr c9
    subst c9
    have H1 : (impl_IsValidLoading.j0 k l1 l2 true l0) = some r:=by rw [if_neg (show ¬ (false = true) by decide)] at H;exact H
    clear H
    have H:=H1
    clear H1
    have H':=Aside0.mk H
    clear H
    have hcz13_0 : w5.cell? ⟨gb253,0,none⟩ = some (.slice A0 l0.length c0):=(blk_cell BK253.out 0).trans rfl
    have hfz13_0:=blk_frozen BK253.out 0
    go_wp2_with (first | ((with_reducible refine gate_callee (f:=18) rfl ?_);refine goesL_ (some 8) rfl rfl Try.func18 (by kernel_rfl) rfl #[.slice A0 l0.length c0] rfl (by (try simp only [List.map_toArray,List.map_cons,List.map_nil]);first | done | rfl | (simp only [List.length_drop,List.length_take];rfl)) ?_;(with_reducible refine (impl_IsValidTrain.calls k _ _ l0 true _ ?side1 ?side2 A6.out).mono ?_);(case side1 => repeat (first | exact (Kd.C_below HR0.out HB.out) | (with_reducible refine Kd.C_alloc ?_ _) | (with_reducible refine Kd.C_drewN ?_ _) | (with_reducible refine Kd.C_drew ?_)));(case side2 => exact HC0.out);rintro e w14 ⟨rfl,hb⟩;refine ⟨_,rfl, ?_⟩;have n0_:=Aside0.mk (blk_below (g:=gb253) (o := .cells #[.slice A0 l0.length c0] 25 (0,0)) (by (with_reducible repeat (first | refine blk_drewN ?_ _ | refine blk_drew ?_ | refine blk_alloc ?_ _));exact BK253.out) hb);have n1_:=Aside0.mk (below_step (by repeat (first | (with_reducible first | exact HB.out | apply below_alloc | apply pw_below_drewN | apply below_drew1 | refine below_set ?_ GE253.out) | exact HB.out)) hb);clear BK253;clear HB;have BK253:=n0_;have HB:=n1_;clear n0_ n1_;(try clear hb);(try clear hb2);(try clear hk);(try clear hi)) | (go_at_call 69;(with_reducible refine (impl_IsValidContainers.calls k _ _ l1 false _ ?side1 ?side2 A8.out).mono ?_);(case side1 => repeat (first | exact (Kd.C_below HR1.out HB.out) | (with_reducible refine Kd.C_alloc ?_ _) | (with_reducible refine Kd.C_drewN ?_ _) | (with_reducible refine Kd.C_drew ?_)));(case side2 => exact HC1.out);rintro e w15 ⟨rfl,hb⟩;have n0_:=Aside0.mk (blk_below (g:=gb253) (o := .cells #[.slice A0 l0.length c0] 25 (0,0)) (by (with_reducible repeat (first | refine blk_drewN ?_ _ | refine blk_drew ?_ | refine blk_alloc ?_ _));exact BK253.out) hb);have n1_:=Aside0.mk (below_step (by repeat (first | (with_reducible first | exact HB.out | apply below_alloc | apply pw_below_drewN | apply below_drew1 | refine below_set ?_ GE253.out) | exact HB.out)) hb);clear BK253;clear HB;have BK253:=n0_;have HB:=n1_;clear n0_ n1_;(try clear hb);(try clear hb2);(try clear hk);(try clear hi)))
    go_meet
    case rel => exact ⟨_,(true),(by first | rfl | (simp;done) | (simp [*];done)),H',⟨by first | omega | exact Nat.le_refl _⟩,⟨by (with_reducible repeat (first | refine blk_drewN ?_ _ | refine blk_drew ?_ | refine blk_alloc ?_ _));exact BK253.out⟩,⟨by repeat (first | (with_reducible first | exact HB.out | apply below_alloc | apply pw_below_drewN | apply below_drew1 | refine below_set ?_ GE253.out) | exact HB.out)⟩⟩
  ·replace c7:=Bool.eq_false_iff.mpr c7
   subst c7
   have H1 : (impl_IsValidLoading.j0 k l1 l2 true l0) = some r:=by rw [if_neg (show ¬ (false = true) by decide)] at H;exact H
   clear H
   have H:=H1
   clear H1
   have H':=Aside0.mk H
   clear H
   have hcz16_0 : w5.cell? ⟨gb253,0,none⟩ = some (.slice A0 l0.length c0):=(blk_cell BK253.out 0).trans rfl
   have hfz16_0:=blk_frozen BK253.out 0
   go_wp2_with (first | ((with_reducible refine gate_callee (f:=18) rfl ?_);refine goesL_ (some 8) rfl rfl Try.func18 (by kernel_rfl) rfl #[.slice A0 l0.length c0] rfl (by (try simp only [List.map_toArray,List.map_cons,List.map_nil]);first | done | rfl | (simp only [List.length_drop,List.length_take];rfl)) ?_;(with_reducible refine (impl_IsValidTrain.calls k _ _ l0 false _ ?side1 ?side2 A6.out).mono ?_);(case side1 => repeat (first | exact (Kd.C_below HR0.out HB.out) | (with_reducible refine Kd.C_alloc ?_ _) | (with_reducible refine Kd.C_drewN ?_ _) | (with_reducible refine Kd.C_drew ?_)));(case side2 => exact HC0.out);rintro e w17 ⟨rfl,hb⟩;refine ⟨_,rfl, ?_⟩;have n0_:=Aside0.mk (blk_below (g:=gb253) (o := .cells #[.slice A0 l0.length c0] 25 (0,0)) (by (with_reducible repeat (first | refine blk_drewN ?_ _ | refine blk_drew ?_ | refine blk_alloc ?_ _));exact BK253.out) hb);have n1_:=Aside0.mk (below_step (by repeat (first | (with_reducible first | exact HB.out | apply below_alloc | apply pw_below_drewN | apply below_drew1 | refine below_set ?_ GE253.out) | exact HB.out)) hb);clear BK253;clear HB;have BK253:=n0_;have HB:=n1_;clear n0_ n1_;(try clear hb);(try clear hb2);(try clear hk);(try clear hi)))
   go_meet
   case rel => exact ⟨_,(true),(by first | rfl | (simp;done) | (simp [*];done)),H',⟨by first | omega | exact Nat.le_refl _⟩,⟨by (with_reducible repeat (first | refine blk_drewN ?_ _ | refine blk_drew ?_ | refine blk_alloc ?_ _));exact BK253.out⟩,⟨by repeat (first | (with_reducible first | exact HB.out | apply below_alloc | apply pw_below_drewN | apply below_drew1 | refine below_set ?_ GE253.out) | exact HB.out)⟩⟩
 case rest =>
  clear HC4
  try clear c1
  try clear c2
  try clear p2
  try clear c7
  try clear c9
  try clear hcz10_0
  try clear hcz13_0
  try clear hcz16_0
  try clear hfz10_0
  try clear hfz13_0
  try clear hfz16_0
  obtain ⟨kq,x21_3,rfl,HA,HJ3,BK253,HB⟩ := hcut
  cases kq with
  | zero => exact absurd HA.out (by simp [impl_IsValidLoading.j0])
  | succ kj3 =>
   have H:=HA.out
   clear HA
   simp only [impl_IsValidLoading.j0] at H
   by_cases c18 : x21_3 = true
   ·subst c18
    have H1 : (some false) = some r:=by rw [if_pos rfl] at H;exact H
    clear H
    have H:=H1
    clear H1
    obtain rfl:=Option.some.inj H
    go_wp2
    go_ret
    exact ⟨by first | rfl | (simp [errW_none,errW_some] <;> rfl) | (simp [*,errW_none,errW_some] <;> rfl),by repeat (first | (with_reducible first | exact HB.out | apply below_alloc | apply pw_below_drewN | apply below_drew1 | refine below_set ?_ GE253.out) | exact HB.out)⟩
   ·replace c18:=Bool.eq_false_iff.mpr c18
    subst c18
    have H1 : ((slices_ContainsFunc_int.f kj3 l2 l0).bind fun t256 => (if t256 = true then (some false) else ((impl_isLoaded.f kj3 l0 l1 l2).bind fun t257 => (some t257)))) = some r:=by rw [if_neg (show ¬ (false = true) by decide)] at H;exact H
    clear H
    have H:=H1
    clear H1
    replace H:=Option.bind_eq_some_iff.mp H
    obtain ⟨t256,A190,H⟩ := H
    replace H : (if t256 = true then (some false) else ((impl_isLoaded.f kj3 l0 l1 l2).bind fun t257 => (some t257))) = some r:=H
    have A19:=Aside0.mk A190
    clear A190
    by_cases c20 : t256 = true
    ·subst c20
     have H1 : (some false) = some r:=by rw [if_pos rfl] at H;exact H
     clear H
     have H:=H1
     clear H1
     obtain rfl:=Option.some.inj H
     go_wp2_with (first | ((with_reducible refine gate_callee (f:=70) rfl ?_);refine goesL_ (some 24) rfl rfl Try.func70 (by kernel_rfl) rfl #[.slice A2 l2.length c2,(.func (.func 71) #[] #[.pointer (some ⟨gb253,0,none⟩)])] rfl (by (try simp only [List.map_toArray,List.map_cons,List.map_nil]);first | done | rfl | (simp only [List.length_drop,List.length_take];rfl)) ?_;(with_reducible refine (slices_ContainsFunc_int.calls (hg1_0:=?sg0) kj3 _ _ l2 A0 c0 l0 true _ ?side1 ?side2 ?side3 ?side4 A19.out).mono ?_);(case sg0 => exact (blk_cell (by (with_reducible repeat (first | refine blk_drewN ?_ _ | refine blk_drew ?_ | refine blk_alloc ?_ _));exact BK253.out) 0).trans rfl);(case side1 => repeat (first | exact (Kd.C_below HR2.out HB.out) | (with_reducible refine Kd.C_alloc ?_ _) | (with_reducible refine Kd.C_drewN ?_ _) | (with_reducible refine Kd.C_drew ?_)));(case side2 => exact HC2.out);(case side3 => repeat (first | exact (Kd.C_below HR0.out HB.out) | (with_reducible refine Kd.C_alloc ?_ _) | (with_reducible refine Kd.C_drewN ?_ _) | (with_reducible refine Kd.C_drew ?_)));(case side4 => exact HC0.out);rintro e w21 ⟨rfl,hb⟩;refine ⟨_,rfl, ?_⟩;have n0_:=Aside0.mk (blk_below (g:=gb253) (o := .cells #[.slice A0 l0.length c0] 25 (0,0)) (by (with_reducible repeat (first | refine blk_drewN ?_ _ | refine blk_drew ?_ | refine blk_alloc ?_ _));exact BK253.out) hb);have n1_:=Aside0.mk (below_step (by repeat (first | (with_reducible first | exact HB.out | apply below_alloc | apply pw_below_drewN | apply below_drew1 | refine below_set ?_ GE253.out) | exact HB.out)) hb);clear BK253;clear HB;have BK253:=n0_;have HB:=n1_;clear n0_ n1_;(try clear hb);(try clear hb2);(try clear hk);(try clear hi)))
     go_ret
     exact ⟨by first | rfl | (simp [errW_none,errW_some] <;> rfl) | (simp [*,errW_none,errW_some] <;> rfl),by repeat (first | (with_reducible first | exact HB.out | apply below_alloc | apply pw_below_drewN | apply below_drew1 | refine below_set ?_ GE253.out) | exact HB.out)⟩
    ·replace c20:=Bool.eq_false_iff.mpr c20
     subst c20
     have H1 : ((impl_isLoaded.f kj3 l0 l1 l2).bind fun t257 => (some t257)) = some r:=by rw [if_neg (show ¬ (false = true) by decide)] at H;exact H
     clear H
     have H:=H1
     clear H1
     replace H:=Option.bind_eq_some_iff.mp H
     obtain ⟨t257,A220,H⟩ := H
     replace H : (some t257) = some r:=H
     have A22:=Aside0.mk A220
     clear A220
     obtain rfl:=Option.some.inj H
     go_wp2_with (first | ((with_reducible refine gate_callee (f:=70) rfl ?_);refine goesL_ (some 24) rfl rfl Try.func70 (by kernel_rfl) rfl #[.slice A2 l2.length c2,(.func (.func 71) #[] #[.pointer (some ⟨gb253,0,none⟩)])] rfl (by (try simp only [List.map_toArray,List.map_cons,List.map_nil]);first | done | rfl | (simp only [List.length_drop,List.length_take];rfl)) ?_;(with_reducible refine (slices_ContainsFunc_int.calls (hg1_0:=?sg0) kj3 _ _ l2 A0 c0 l0 false _ ?side1 ?side2 ?side3 ?side4 A19.out).mono ?_);(case sg0 => exact (blk_cell (by (with_reducible repeat (first | refine blk_drewN ?_ _ | refine blk_drew ?_ | refine blk_alloc ?_ _));exact BK253.out) 0).trans rfl);(case side1 => repeat (first | exact (Kd.C_below HR2.out HB.out) | (with_reducible refine Kd.C_alloc ?_ _) | (with_reducible refine Kd.C_drewN ?_ _) | (with_reducible refine Kd.C_drew ?_)));(case side2 => exact HC2.out);(case side3 => repeat (first | exact (Kd.C_below HR0.out HB.out) | (with_reducible refine Kd.C_alloc ?_ _) | (with_reducible refine Kd.C_drewN ?_ _) | (with_reducible refine Kd.C_drew ?_)));(case side4 => exact HC0.out);rintro e w23 ⟨rfl,hb⟩;refine ⟨_,rfl, ?_⟩;have n0_:=Aside0.mk (blk_below (g:=gb253) (o := .cells #[.slice A0 l0.length c0] 25 (0,0)) (by (with_reducible repeat (first | refine blk_drewN ?_ _ | refine blk_drew ?_ | refine blk_alloc ?_ _));exact BK253.out) hb);have n1_:=Aside0.mk (below_step (by repeat (first | (with_reducible first | exact HB.out | apply below_alloc | apply pw_below_drewN | apply below_drew1 | refine below_set ?_ GE253.out) | exact HB.out)) hb);clear BK253;clear HB;have BK253:=n0_;have HB:=n1_;clear n0_ n1_;(try clear hb);(try clear hb2);(try clear hk);(try clear hi);have hcz24_0 : w23.cell? ⟨gb253,0,none⟩ = some (.slice A0 l0.length c0):=(blk_cell BK253.out 0).trans rfl;have hfz24_0:=blk_frozen BK253.out 0) | ((with_reducible refine gate_callee (f:=72) rfl ?_);refine goesL_ (some 28) rfl rfl Try.func72 (by kernel_rfl) rfl #[.slice A0 l0.length c0, .slice A1 l1.length c1, .slice A2 l2.length c2] rfl (by (try simp only [List.map_toArray,List.map_cons,List.map_nil]);first | done | rfl | (simp only [List.length_drop,List.length_take];rfl)) ?_;(with_reducible refine (impl_isLoaded.calls kj3 _ _ l0 _ _ l1 _ _ l2 t257 _ ?side1 ?side2 ?side3 ?side4 ?side5 ?side6 A22.out).mono ?_);(case side1 => repeat (first | exact (Kd.C_below HR0.out HB.out) | (with_reducible refine Kd.C_alloc ?_ _) | (with_reducible refine Kd.C_drewN ?_ _) | (with_reducible refine Kd.C_drew ?_)));(case side2 => exact HC0.out);(case side3 => repeat (first | exact (Kd.C_below HR1.out HB.out) | (with_reducible refine Kd.C_alloc ?_ _) | (with_reducible refine Kd.C_drewN ?_ _) | (with_reducible refine Kd.C_drew ?_)));(case side4 => exact HC1.out);(case side5 => repeat (first | exact (Kd.C_below HR2.out HB.out) | (with_reducible refine Kd.C_alloc ?_ _) | (with_reducible refine Kd.C_drewN ?_ _) | (with_reducible refine Kd.C_drew ?_)));(case side6 => exact HC2.out);rintro e w25 ⟨rfl,hb⟩;refine ⟨_,rfl, ?_⟩;have n0_:=Aside0.mk (blk_below (g:=gb253) (o := .cells #[.slice A0 l0.length c0] 25 (0,0)) (by (with_reducible repeat (first | refine blk_drewN ?_ _ | refine blk_drew ?_ | refine blk_alloc ?_ _));exact BK253.out) hb);have n1_:=Aside0.mk (below_step (by repeat (first | (with_reducible first | exact HB.out | apply below_alloc | apply pw_below_drewN | apply below_drew1 | refine below_set ?_ GE253.out) | exact HB.out)) hb);clear BK253;clear HB;have BK253:=n0_;have HB:=n1_;clear n0_ n1_;(try clear hb);(try clear hb2);(try clear hk);(try clear hi)))
     go_ret
     exact ⟨by first | rfl | (simp [errW_none,errW_some] <;> rfl) | (simp [*,errW_none,errW_some] <;> rfl),by repeat (first | (with_reducible first | exact HB.out | apply below_alloc | apply pw_below_drewN | apply below_drew1 | refine below_set ?_ GE253.out) | exact HB.out)⟩

/-! ### impl_FreeLengths: function 38 -/
def impl_FreeLengths.l0 : Nat → List Int → List (S70) → Int → Int → Option (List Int × Bool)
 | 0,_,_,_,_ => none
 | k + 1,x8,x24,x25,x26 => if x26 < x25 then (if 0 ≤ x26 then (if x26 < (x24.length : Int) then (if x26 < (x8.length : Int) then (impl_FreeLengths.l0 k (x8.set (x26 : Int).toNat (wrap64 (((rd_T70 x24 x26).f0) - (rd x8 x26)))) x24 x25 (wrap64 (x26 + 1))) else (none)) else (none)) else (none)) else (some (x8,true))
def impl_FreeLengths.f (k : Nat) (l0 : List (S70)) (l1 : List (S64)) (l2 : List Int) : Option (List Int × Bool):=(impl_IsValidLoading.f k l0 l1 l2).bind fun t258 => (if t258 = true then ((impl_usage.f k l0 l1 l2).bind fun bt259 => (impl_FreeLengths.l0 k bt259.1 l0 (l0.length : Int) 0)) else (some (([] : List Int),false)))
theorem impl_FreeLengths.mono_l : ∀ k,(∀ y0 y1 y2 y3,LeO (impl_FreeLengths.l0 k y0 y1 y2 y3) (impl_FreeLengths.l0 (k + 1) y0 y1 y2 y3))
 | 0 => fun _ _ _ _ r h => by simp [impl_FreeLengths.l0] at h
 | k + 1 => by
  have ih0:=impl_FreeLengths.mono_l k
  ·intro y0 y1 y2 y3
   unfold impl_FreeLengths.l0
   repeat' first
   | (with_reducible exact ih0 _ _ _ _)
   | (with_reducible exact impl_IsValidLoading.mono _ _ _ _)
   | (with_reducible exact impl_usage.mono _ _ _ _)
   | (with_reducible exact LeO.refl _)
   | (with_reducible exact LeO.none _)
   | (with_reducible refine LeO.ite ?_ ?_)
   | (with_reducible refine LeO.bind ?_ (fun _ => ?_))
   | exact ih0 _ _ _ _
   | exact impl_IsValidLoading.mono _ _ _ _
   | exact impl_usage.mono _ _ _ _
   | exact LeO.none _
   | refine LeO.ite ?_ ?_
   | refine LeO.bind ?_ (fun _ => ?_)
theorem impl_FreeLengths.mono : ∀ a0 a1 a2 k,LeO (impl_FreeLengths.f k a0 a1 a2) (impl_FreeLengths.f (k + 1) a0 a1 a2):=by
 intro a0 a1 a2 k
 have ih0:=impl_FreeLengths.mono_l k
 unfold impl_FreeLengths.f
 repeat' first
   | (with_reducible exact ih0 _ _ _ _)
   | (with_reducible exact impl_IsValidLoading.mono _ _ _ _)
   | (with_reducible exact impl_usage.mono _ _ _ _)
   | (with_reducible exact LeO.refl _)
   | (with_reducible exact LeO.none _)
   | (with_reducible refine LeO.ite ?_ ?_)
   | (with_reducible refine LeO.bind ?_ (fun _ => ?_))
   | exact ih0 _ _ _ _
   | exact impl_IsValidLoading.mono _ _ _ _
   | exact impl_usage.mono _ _ _ _
   | exact LeO.none _
   | refine LeO.ite ?_ ?_
   | refine LeO.bind ?_ (fun _ => ?_)
def impl_FreeLengths.T7 : Bool × List (List Nat × List Nat):=(true,[([],[]),([],[]),([],[]),([2],[2]),([],[]),([],[]),([4,5],[4,5]),([6],[6]),([3,7],[3,7]),([0,1,0,1,2,3,4,5,6,7,8],[0,1]),([9,8,0,1,2,3,4,5,6,7,8],[8,9])])
def impl_FreeLengths.B7 : List Nat := [0,0,0,4,0,0,48,112,252,511,1023]
theorem impl_FreeLengths.tab7 : rtab .any (opsOf Try.f38 7) = impl_FreeLengths.T7:=by kernel_rfl
theorem impl_FreeLengths.bits7 : waitsOk impl_FreeLengths.T7.2 impl_FreeLengths.B7 = true:=by kernel_rfl
set_option maxHeartbeats 8000000 in
set_option maxRecDepth 100000 in
theorem impl_FreeLengths.calls (k : Nat) (A0 : Option Addr) (c0 : Nat) (l0 : List (S70)) (A1 : Option Addr) (c1 : Nat) (l1 : List (S64)) (A2 : Option Addr) (c2 : Nat) (l2 : List Int) (r1 : List Int) (r2 : Bool) (w : World) (hr0 : Kd.C k70 w A0 l0.length l0) (hc0 : l0.length ≤ c0) (hr1 : Kd.C k64 w A1 l1.length l1) (hc1 : l1.length ≤ c1) (hr2 : Kd.C (Kd.int .i64) w A2 l2.length l2) (hc2 : l2.length ≤ c2) (h : impl_FreeLengths.f k l0 l1 l2 = some (r1,r2)) :
  Calls Try.prog 38 #[.slice A0 l0.length c0, .slice A1 l1.length c1, .slice A2 l2.length c2] w fun e w' => ∃ v0_ : Value,e = .returned (.tuple #[v0_, .bool r2]) ∧ Kd.R (Kd.int .i64) 3 w' w.heap.size (fun _ => True) v0_ r1 ∧ Below w.heap.size w w':=by
 have hu70:=Try.underlying70
 have HR0:=Aside0.mk hr0
 have HC0:=Aside0.mk hc0
 clear hr0 hc0
 have HR1:=Aside0.mk hr1
 have HC1:=Aside0.mk hc1
 clear hr1 hc1
 have HR2:=Aside0.mk hr2
 have HC2:=Aside0.mk hc2
 clear hr2 hc2
 have HB:=Aside0.mk (Below.refl w.heap.size w)
 have H : ((impl_IsValidLoading.f k l0 l1 l2).bind fun t258 => (if t258 = true then ((impl_usage.f k l0 l1 l2).bind fun bt259 => (impl_FreeLengths.l0 k bt259.1 l0 (l0.length : Int) 0)) else (some (([] : List Int),false)))) = some (r1,r2):=h
 clear h
 replace H:=Option.bind_eq_some_iff.mp H
 obtain ⟨t258,A40,H⟩ := H
 replace H : (if t258 = true then ((impl_usage.f k l0 l1 l2).bind fun bt259 => (impl_FreeLengths.l0 k bt259.1 l0 (l0.length : Int) 0)) else (some (([] : List Int),false))) = some (r1,r2):=H
 have A4:=Aside0.mk A40
 clear A40
 by_cases c5 : t258 = true
 ·subst c5
  have H1 : ((impl_usage.f k l0 l1 l2).bind fun bt259 => (impl_FreeLengths.l0 k bt259.1 l0 (l0.length : Int) 0)) = some (r1,r2):=by rw [if_pos rfl] at H;exact H
  clear H
  have H:=H1
  clear H1
  replace H:=Option.bind_eq_some_iff.mp H
  obtain ⟨⟨t259,t260⟩,A60,H⟩ := H
  replace H : (impl_FreeLengths.l0 k t259 l0 (l0.length : Int) 0) = some (r1,r2):=H
  have A6:=Aside0.mk A60
  clear A60
  have H':=Aside0.mk H
  clear H
  go_enter Try.func38,Try.ntmps38
  go_wp2_with (first | ((with_reducible refine gate_callee (f:=24) rfl ?_);refine goesL_ (some 15) rfl rfl Try.func24 (by kernel_rfl) rfl #[.slice A0 l0.length c0, .slice A1 l1.length c1, .slice A2 l2.length c2] rfl (by (try simp only [List.map_toArray,List.map_cons,List.map_nil]);first | done | rfl | (simp only [List.length_drop,List.length_take];rfl)) ?_;(with_reducible refine (impl_IsValidLoading.calls k _ _ l0 _ _ l1 _ _ l2 true _ ?side1 ?side2 ?side3 ?side4 ?side5 ?side6 A4.out).mono ?_);(case side1 => repeat (first | exact HR0.out | (with_reducible refine Kd.C_alloc ?_ _) | (with_reducible refine Kd.C_drewN ?_ _) | (with_reducible refine Kd.C_drew ?_)));(case side2 => exact HC0.out);(case side3 => repeat (first | exact HR1.out | (with_reducible refine Kd.C_alloc ?_ _) | (with_reducible refine Kd.C_drewN ?_ _) | (with_reducible refine Kd.C_drew ?_)));(case side4 => exact HC1.out);(case side5 => repeat (first | exact HR2.out | (with_reducible refine Kd.C_alloc ?_ _) | (with_reducible refine Kd.C_drewN ?_ _) | (with_reducible refine Kd.C_drew ?_)));(case side6 => exact HC2.out);rintro e w7 ⟨rfl,hb⟩;refine ⟨_,rfl, ?_⟩;have n0_:=Aside0.mk (below_step (by repeat (first | (with_reducible first | exact HB.out | apply below_alloc | apply pw_below_drewN | apply below_drew1) | exact HB.out)) hb);clear HB;have HB:=n0_;clear n0_;(try clear hb);(try clear hb2);(try clear hk);(try clear hi)) | ((with_reducible refine gate_callee (f:=82) rfl ?_);refine goesL_ (some 21) rfl rfl Try.func82 (by kernel_rfl) rfl #[.slice A0 l0.length c0, .slice A1 l1.length c1, .slice A2 l2.length c2] rfl (by (try simp only [List.map_toArray,List.map_cons,List.map_nil]);first | done | rfl | (simp only [List.length_drop,List.length_take];rfl)) ?_;(with_reducible refine (impl_usage.calls k _ _ l0 _ _ l1 _ _ l2 t259 t260 _ ?side1 ?side2 ?side3 ?side4 ?side5 ?side6 A6.out).mono ?_);(case side1 => repeat (first | exact (Kd.C_below HR0.out HB.out) | (with_reducible refine Kd.C_alloc ?_ _) | (with_reducible refine Kd.C_drewN ?_ _) | (with_reducible refine Kd.C_drew ?_)));(case side2 => exact HC0.out);(case side3 => repeat (first | exact (Kd.C_below HR1.out HB.out) | (with_reducible refine Kd.C_alloc ?_ _) | (with_reducible refine Kd.C_drewN ?_ _) | (with_reducible refine Kd.C_drew ?_)));(case side4 => exact HC1.out);(case side5 => repeat (first | exact (Kd.C_below HR2.out HB.out) | (with_reducible refine Kd.C_alloc ?_ _) | (with_reducible refine Kd.C_drewN ?_ _) | (with_reducible refine Kd.C_drew ?_)));(case side6 => exact HC2.out);rintro e w8 ⟨v261,v263,rfl,ho0,ho1,hb⟩;refine ⟨_,rfl, ?_⟩;have n0_:=Aside0.mk (Kd.R_lower ho0 (below_size (by repeat (first | (with_reducible first | exact HB.out | apply below_alloc | apply pw_below_drewN | apply below_drew1) | exact HB.out))));have n1_:=Aside0.mk (Kd.R_lower ho1 (below_size (by repeat (first | (with_reducible first | exact HB.out | apply below_alloc | apply pw_below_drewN | apply below_drew1) | exact HB.out))));have n2_:=Aside0.mk (below_step (by repeat (first | (with_reducible first | exact HB.out | apply below_alloc | apply pw_below_drewN | apply below_drew1) | exact HB.out)) hb);clear HB;have HO262:=n0_;have HO264:=n1_;have HB:=n2_;clear n0_ n1_ n2_;(try clear hb);(try clear hb2);(try clear hk);(try clear hi);(try clear ho0);(try clear ho1)))
  go_loopg [26] k (fun kq v26 w' => ∃ (x8_1 : List Int) (x26_1 : Int),v26 = .int .i64 x26_1 ∧ Aside0 (impl_FreeLengths.l0 kq x8_1 l0 (l0.length : Int) x26_1 = some (r1,r2)) ∧ Aside0 (kq ≤ k) ∧ Aside0 (Kd.R (Kd.int .i64) 3 w' w.heap.size (fun _ => True) v261 x8_1) ∧ Aside0 (Below w.heap.size w w'))
  case atStart => exact ⟨(t259),(0),(by first | rfl | (simp;done) | (simp [*];done)),H',⟨Nat.le_refl _⟩,⟨by (with_reducible repeat (first | apply Kd.R_alloc | apply Kd.R_drewN | apply Kd.R_drew));exact Kd.R_mono HO262.out (fun _ hk => trivial)⟩,⟨by repeat (first | (with_reducible first | exact HB.out | apply below_alloc | apply pw_below_drewN | apply below_drew1) | exact HB.out)⟩⟩
  case round =>
   clear H'
   try clear c1
   try clear c2
   try clear p2
   try clear c3
   try clear c5
   try clear c8
   obtain ⟨x8_1,x26_1,rfl,HA,HK1,HO_8,HB⟩ := hrel
   cases gk with
   | zero => exact absurd HA.out (by simp [impl_FreeLengths.l0])
   | succ k1 =>
    have H:=HA.out
    clear HA
    simp only [impl_FreeLengths.l0] at H
    by_cases c9 : x26_1 < (l0.length : Int)
    ·rw [if_pos c9] at H
     have c9b0 : decide (x26_1 < (l0.length : Int)) = true:=decide_eq_true c9
     clear c9
     by_cases c10 : 0 ≤ x26_1
     ·rw [if_pos c10] at H
      have c10b0 : decide (0 ≤ x26_1) = true:=decide_eq_true c10
      clear c10
      by_cases c11 : x26_1 < (l0.length : Int)
      ·rw [if_pos c11] at H
       have c11b0 : decide (x26_1 < (l0.length : Int)) = true:=decide_eq_true c11
       clear c11
       by_cases c12 : x26_1 < (x8_1.length : Int)
       ·rw [if_pos c12] at H
        have c12b0 : decide (x26_1 < (x8_1.length : Int)) = true:=decide_eq_true c12
        clear c12
        obtain ⟨y268,hy268⟩ : ∃ y_ : List Int,y_ = (x8_1.set (x26_1 : Int).toNat (wrap64 (((rd_T70 l0 x26_1).f0) - (rd x8_1 x26_1)))):=⟨_,rfl⟩
        replace H : (impl_FreeLengths.l0 k1 y268 l0 (l0.length : Int) (wrap64 (x26_1 + 1))) = some (r1,r2):=by first | (rw [hy268];with_reducible exact H) | (have H2_:=(Option.bind_some _ _).symm.trans H;rw [hy268];with_reducible exact H2_) | (have H2_:=(Option.bind_some _ _).symm.trans H;with_reducible exact H2_) | with_reducible exact H | (rw [hy268];exact H) | exact H
        have Ny268:=Aside0.mk hy268
        clear hy268
        have H':=Aside0.mk H
        clear H
        have p265 : 0 ≤ (x26_1 : Int):=of_decide_eq_true (by first | (with_reducible assumption) | assumption)
        have q265 : x26_1 < (l0.length : Int):=of_decide_eq_true (by first | (with_reducible assumption) | assumption)
        obtain ⟨ad265,e265,hx265_0,hx265_1⟩ := at_T70 HR0.out x26_1 p265 q265
        cases e265
        replace hx265_0:=(HB.out.cell (World.block_lt_of_cell? w _ hx265_0)).trans hx265_0
        replace hx265_1:=(HB.out.cell (World.block_lt_of_cell? w _ hx265_1)).trans hx265_1
        replace p265:=eq_true p265
        replace q265:=eq_true q265
        try go_wp2_with (first | ((with_reducible refine gate_dst (N:=11) rfl ?_);refine box_event ?hg (N:=11) ?hd (cs:=#[.int .i64 0, .int .i64 0]) (t:=70) ?hr ?_;(case hd => rfl);(case hg => rfl);(case hr => first | (go_simp;done) | (go_simp;rfl));intro gb266 hg w14 hbox hb;have n0_:=Aside0.mk (Kd.R_below (by (with_reducible repeat (first | apply Kd.R_alloc | apply Kd.R_drewN | apply Kd.R_drew));exact HO_8.out) hb);have n1_:=Aside0.mk (below_step (by repeat (first | (with_reducible first | exact HB.out | apply below_alloc | apply pw_below_drewN | apply below_drew1) | exact HB.out)) hb);have n2_:=Aside0.mk (hbox);have n3_:=Aside0.mk ((by rw [hg];exact (below_size (by repeat (first | (with_reducible first | exact HB.out | apply below_alloc | apply pw_below_drewN | apply below_drew1) | exact HB.out))) : w.heap.size ≤ gb266));have n4_:=Aside0.mk ((by rw [hg];exact (below_size (by repeat (first | (with_reducible first | exact HB.out | apply below_alloc | apply pw_below_drewN | apply below_drew1) | exact HB.out))) : w.heap.size ≤ gb266));clear HO_8;clear HB;have HO_8:=n0_;have HB:=n1_;have BK266:=n2_;have GW266:=n3_;have GE266:=n4_;clear n0_ n1_ n2_ n3_ n4_;clear hb hbox hg;have hcz15_0 : w14.cell? ⟨gb266,0,none⟩ = some (.int .i64 0):=(blk_cell BK266.out 0).trans rfl;have hcz15_1 : w14.cell? ⟨gb266,1,none⟩ = some (.int .i64 0):=(blk_cell BK266.out 1).trans rfl;have hfz15_0:=blk_frozen BK266.out 0;have hfz15_1:=blk_frozen BK266.out 1))
        have n0_ : Aside0 (Kd.R (Kd.int .i64) 3 ((w14.setCell ⟨gb266,0,none⟩ (.int .i64 ((rd_T70 l0 x26_1).f0))).setCell ⟨gb266,1,none⟩ (.int .i64 ((rd_T70 l0 x26_1).f1))) w.heap.size (fun _ => True) v261 x8_1):=⟨by (with_reducible repeat (first | apply Kd.R_alloc | apply Kd.R_drewN | apply Kd.R_drew));exact Kd.R_mono (Kd.R_far (p:=⟨gb266,1,none⟩) (Kd.R_far (p:=⟨gb266,0,none⟩) (Kd.R_types HO_8.out BK266.out (by decide)) (fun _ hk => hk.2) (.int .i64 ((rd_T70 l0 x26_1).f0))) (fun _ hk => hk.2) (.int .i64 ((rd_T70 l0 x26_1).f1))) (fun _ hk => trivial)⟩
        have n1_ : Aside0 (((w14.setCell ⟨gb266,0,none⟩ (.int .i64 ((rd_T70 l0 x26_1).f0))).setCell ⟨gb266,1,none⟩ (.int .i64 ((rd_T70 l0 x26_1).f1))).heap[gb266]? = some (.cells #[.int .i64 ((rd_T70 l0 x26_1).f0), .int .i64 ((rd_T70 l0 x26_1).f1)] 70 (0,0))):=⟨by (with_reducible repeat (first | refine blk_drewN ?_ _ | refine blk_drew ?_ | refine blk_alloc ?_ _));refine blk_put (cs:=#[.int .i64 ((rd_T70 l0 x26_1).f0), .int .i64 0]) ?_ 1 _ rfl;(with_reducible repeat (first | refine blk_drewN ?_ _ | refine blk_drew ?_ | refine blk_alloc ?_ _));refine blk_put (cs:=#[.int .i64 0, .int .i64 0]) ?_ 0 _ rfl;(with_reducible repeat (first | refine blk_drewN ?_ _ | refine blk_drew ?_ | refine blk_alloc ?_ _));exact BK266.out⟩
        have n2_ : Aside0 (Below w.heap.size w ((w14.setCell ⟨gb266,0,none⟩ (.int .i64 ((rd_T70 l0 x26_1).f0))).setCell ⟨gb266,1,none⟩ (.int .i64 ((rd_T70 l0 x26_1).f1)))):=⟨by repeat (first | (with_reducible first | exact HB.out | apply below_alloc | apply pw_below_drewN | apply below_drew1 | refine below_set ?_ GE266.out) | exact HB.out)⟩
        (try clear HO_8)
        (try clear BK266)
        (try clear HB)
        generalize ((w14.setCell ⟨gb266,0,none⟩ (.int .i64 ((rd_T70 l0 x26_1).f0))).setCell ⟨gb266,1,none⟩ (.int .i64 ((rd_T70 l0 x26_1).f1))) = w16 at n0_ n1_ n2_ ⊢
        have HO_8:=n0_
        have BK266:=n1_
        have HB:=n2_
        clear n0_ n1_ n2_
        have n0_:=Aside0.mk (Kd.R_drew HO_8.out)
        have n1_:=Aside0.mk (blk_drew BK266.out)
        have n2_:=Aside0.mk (below_drew1 HB.out)
        clear HO_8
        clear BK266
        clear HB
        have HO_8:=n0_
        have BK266:=n1_
        have HB:=n2_
        clear n0_ n1_ n2_
        obtain ⟨Ao18,co18,eo18⟩ := Kd.R_slice HO_8.out
        (first | subst eo18 | (injection eo18 with f1_ f2_ f3_;have f4_:=f1_.symm;have f5_:=f3_.symm;clear f1_ f2_ f3_;subst f4_;subst f5_))
        have p267 : 0 ≤ (x26_1 : Int):=of_decide_eq_true (by first | (with_reducible assumption) | assumption)
        have q267 : x26_1 < (x8_1.length : Int):=of_decide_eq_true (by first | (with_reducible assumption) | assumption)
        obtain ⟨ad267,e267,hx267_0⟩ := Kd.at_int (Kd.R_reads' HO_8.out).2.2 x26_1 p267 q267
        cases e267
        replace p267:=eq_true p267
        replace q267:=eq_true q267
        have p13 : 0 ≤ (x26_1 : Int):=of_decide_eq_true (by first | (with_reducible assumption) | assumption)
        have q13 : (x26_1 : Int) < ((x8_1.length : Int) : Int):=of_decide_eq_true (by first | (with_reducible assumption) | assumption)
        obtain ⟨go13,co13,eo13,gb13,gl13,cl13,HG13⟩ := Kd.R_form HO_8.out (by omega)
        (first | cases eo13 | (injection eo13 with ea_ en_ ec_;(first | subst ea_ | (injection ea_ with ea_;subst ea_));subst ec_;clear en_))
        have GB13:=Aside0.mk gb13
        have GG13:=Aside0.mk HG13
        clear gb13 gl13 HG13
        (first | simp only [add_plain] at hx267_0 | skip)
        obtain ⟨hx13_0,hf13_0⟩ := Kd.R_celln 0 HO_8.out (x26_1 : Int) p13 q13
        replace p13:=eq_true p13
        replace q13:=eq_true q13
        have HP19:=Kd.R_putn HO_8.out (x26_1 : Int) (wrap64 (((rd_T70 l0 x26_1).f0) - (rd x8_1 x26_1)))
        rw [← Ny268.out] at HP19
        have HQ19:=Aside0.mk HP19
        clear HP19
        refine start_ (n:=11) (S:=fun w' => w'.cell? ⟨gb266,0,none⟩ = some (.int .i64 ((rd_T70 l0 x26_1).f0)) ∧ w'.cell? ⟨gb266,1,none⟩ = some (.int .i64 ((rd_T70 l0 x26_1).f1)) ∧ w'.cell? ⟨go13,(x26_1).toNat,none⟩ = some (.int .i64 (rd x8_1 x26_1))) (ds := [10]) #[false,false,false,false,false,false,false,false,false,false,false] (by kernel_rfl) rfl rfl ⟨(blk_cell BK266.out 0).trans rfl,(blk_cell BK266.out 1).trans rfl,hx267_0⟩ (fun hHeld => ?_);refine with_tabW impl_FreeLengths.tab7 impl_FreeLengths.bits7 (fun HT_ HW_ => ?_)
        generalize w16.drew = w17 at HO_8 BK266 HB GG13 HQ19 hf13_0 hx13_0 hx267_0 hHeld ⊢
        refine pure_ (i:=0) (N:=some 31) (v:=?_) (a':=?_) #[true,false,false,false,false,false,false,false,false,false,false] rfl rfl (any_of HT_.out (by kernel_rfl)) (fun _ _ _ h => h) (Or.inl ⟨by rfl, ?_⟩) ?_ ?_
        rotate_left
        ·intro w'
         go_simp
         with_reducible rfl
        rotate_left
        ·simp only [Act.put,sA_,s0_,s1_,i64_w,i32_w]
         rfl
        refine pure_ (i:=1) (N:=some 32) (v:=?_) (a':=?_) #[true,true,false,false,false,false,false,false,false,false,false] rfl rfl (any_of HT_.out (by kernel_rfl)) (fun _ _ _ h => h) (Or.inl ⟨by rfl, ?_⟩) ?_ ?_
        rotate_left
        ·intro w'
         go_simp
         with_reducible rfl
        rotate_left
        ·simp only [Act.put,sA_,s0_,s1_,i64_w,i32_w]
         rfl
        refine pure_ (i:=2) (N:=some 33) (v:=?_) (a':=?_) #[true,true,true,false,false,false,false,false,false,false,false] rfl rfl (any_of HT_.out (by kernel_rfl)) (fun _ _ _ h => h) (Or.inl ⟨by rfl, ?_⟩) ?_ ?_
        rotate_left
        ·intro w'
         go_simp
         with_reducible rfl
        rotate_left
        ·simp only [Act.put,sA_,s0_,s1_,i64_w,i32_w]
         rfl
        refine pure_ (i:=4) (N:=some 35) (v:=?_) (a':=?_) #[true,true,true,false,true,false,false,false,false,false,false] rfl rfl (any_of HT_.out (by kernel_rfl)) (fun _ _ _ h => h) (Or.inl ⟨by rfl, ?_⟩) ?_ ?_
        rotate_left
        ·intro w'
         go_simp
         with_reducible rfl
        rotate_left
        ·simp only [Act.put,sA_,s0_,s1_,i64_w,i32_w]
         rfl
        refine pure_ (i:=5) (N:=some 36) (v:=?_) (a':=?_) #[true,true,true,false,true,true,false,false,false,false,false] rfl rfl (any_of HT_.out (by kernel_rfl)) (fun _ _ _ h => h) (Or.inl ⟨by rfl, ?_⟩) ?_ ?_
        rotate_left
        ·intro w'
         go_simp
         with_reducible rfl
        rotate_left
        ·simp only [Act.put,sA_,s0_,s1_,i64_w,i32_w]
         rfl
        refine pure_ (i:=6) (N:=some 37) (v:=?_) (a':=?_) #[true,true,true,false,true,true,true,false,false,false,false] rfl rfl (any_of HT_.out (by kernel_rfl)) (fun _ _ _ h => h) (Or.inl ⟨by rfl, ?_⟩) ?_ ?_
        rotate_left
        ·intro w'
         go_simp
         with_reducible rfl
        rotate_left
        ·simp only [Act.put,sA_,s0_,s1_,i64_w,i32_w]
         rfl
        refine take_ (i:=3) (N:=some 34) (v:=?_) (a':=?_) #[true,true,true,true,true,true,true,false,false,false,false] rfl rfl (take_ofW HT_.out HW_.out (by kernel_rfl)) (fun _ _ _ h => h) (Or.inl ⟨by rfl, ?_⟩) hHeld ?_ ?_
        rotate_left
        ·rintro w' ⟨s0,s1,s2⟩
         go_simp
         with_reducible rfl
        rotate_left
        ·simp only [Act.put,sA_,s0_,s1_,i64_w,i32_w]
         rfl
        refine take_ (i:=7) (N:=some 38) (v:=?_) (a':=?_) #[true,true,true,true,true,true,true,true,false,false,false] rfl rfl (take_ofW HT_.out HW_.out (by kernel_rfl)) (fun _ _ _ h => h) (Or.inl ⟨by rfl, ?_⟩) hHeld ?_ ?_
        rotate_left
        ·rintro w' ⟨s0,s1,s2⟩
         go_simp
         with_reducible rfl
        rotate_left
        ·simp only [Act.put,sA_,s0_,s1_,i64_w,i32_w]
         rfl
        refine pure_ (i:=8) (N:=some 39) (v:=?_) (a':=?_) #[true,true,true,true,true,true,true,true,true,false,false] rfl rfl (any_of HT_.out (by kernel_rfl)) (fun _ _ _ h => h) (Or.inl ⟨by rfl, ?_⟩) ?_ ?_
        rotate_left
        ·intro w'
         go_simp
         with_reducible rfl
        rotate_left
        ·simp only [Act.put,sA_,s0_,s1_,i64_w,i32_w]
         rfl
        refine pure_ (i:=9) (N:=some 40) (v:=?_) (a':=?_) #[true,true,true,true,true,true,true,true,true,true,false] rfl rfl (any_of HT_.out (by kernel_rfl)) (fun _ _ _ h => h) (Or.inl ⟨by rfl, ?_⟩) ?_ ?_
        rotate_left
        ·intro w'
         go_simp
         with_reducible rfl
        rotate_left
        ·simp only [Act.put,sA_,s0_,s1_,i64_w,i32_w]
         rfl
        refine last_ (i:=10) (N:=none) #[true,true,true,true,true,true,true,true,true,true,true] rfl rfl (one_of HT_.out (by kernel_rfl)) (by decide) (fun K hK => ?_)
        refine skip_ (w1:=?_) (by rfl) rfl ?_ ?_
        rotate_left
        ·go_simp
         rfl
        refine hK.out _ _ ?_
        clear hK K
        refine done_ (done_of HT_.out (by kernel_rfl)) ?_
        try go_wp2
        go_roundg k1
        case measure => have:=HK1.out;omega
        case rel => exact ⟨(y268),(wrap64 (x26_1 + 1)),(by first | rfl | (simp;done) | (simp [*];done)),H',⟨by have:=HK1.out;omega⟩,⟨by (with_reducible repeat (first | apply Kd.R_alloc | apply Kd.R_drewN | apply Kd.R_drew));exact HQ19.out⟩,⟨by repeat (first | (with_reducible first | exact HB.out | apply below_alloc | apply pw_below_drewN | apply below_drew1 | refine below_set ?_ GB13.out | refine below_set ?_ GE266.out) | exact HB.out)⟩⟩
       ·rw [if_neg c12] at H
        exact absurd H (by simp)
      ·rw [if_neg c11] at H
       exact absurd H (by simp)
     ·rw [if_neg c10] at H
      exact absurd H (by simp)
    ·rw [if_neg c9] at H
     have c9b0 : decide (x26_1 < (l0.length : Int)) = false:=decide_eq_false c9
     clear c9
     simp only [Option.some.injEq,Prod.mk.injEq] at H
     obtain ⟨rfl,rfl⟩ := H
     go_wp2
     go_ret2
     exact ⟨_,by first | rfl | (simp [errW_none,errW_some] <;> rfl) | (simp [*,errW_none,errW_some] <;> rfl),by (with_reducible repeat (first | apply Kd.R_alloc | apply Kd.R_drewN | apply Kd.R_drew));exact HO_8.out,by repeat (first | (with_reducible first | exact HB.out | apply below_alloc | apply pw_below_drewN | apply below_drew1) | exact HB.out)⟩
 ·replace c5:=Bool.eq_false_iff.mpr c5
  subst c5
  have H1 : (some (([] : List Int),false)) = some (r1,r2):=by rw [if_neg (show ¬ (false = true) by decide)] at H;exact H
  clear H
  have H:=H1
  clear H1
  simp only [Option.some.injEq,Prod.mk.injEq] at H
  obtain ⟨rfl,rfl⟩ := H
  go_enter Try.func38,Try.ntmps38
  go_wp2_with (first | ((with_reducible refine gate_callee (f:=24) rfl ?_);refine goesL_ (some 15) rfl rfl Try.func24 (by kernel_rfl) rfl #[.slice A0 l0.length c0, .slice A1 l1.length c1, .slice A2 l2.length c2] rfl (by (try simp only [List.map_toArray,List.map_cons,List.map_nil]);first | done | rfl | (simp only [List.length_drop,List.length_take];rfl)) ?_;(with_reducible refine (impl_IsValidLoading.calls k _ _ l0 _ _ l1 _ _ l2 false _ ?side1 ?side2 ?side3 ?side4 ?side5 ?side6 A4.out).mono ?_);(case side1 => repeat (first | exact HR0.out | (with_reducible refine Kd.C_alloc ?_ _) | (with_reducible refine Kd.C_drewN ?_ _) | (with_reducible refine Kd.C_drew ?_)));(case side2 => exact HC0.out);(case side3 => repeat (first | exact HR1.out | (with_reducible refine Kd.C_alloc ?_ _) | (with_reducible refine Kd.C_drewN ?_ _) | (with_reducible refine Kd.C_drew ?_)));(case side4 => exact HC1.out);(case side5 => repeat (first | exact HR2.out | (with_reducible refine Kd.C_alloc ?_ _) | (with_reducible refine Kd.C_drewN ?_ _) | (with_reducible refine Kd.C_drew ?_)));(case side6 => exact HC2.out);rintro e w20 ⟨rfl,hb⟩;refine ⟨_,rfl, ?_⟩;have n0_:=Aside0.mk (below_step (by repeat (first | (with_reducible first | exact HB.out | apply below_alloc | apply pw_below_drewN | apply below_drew1) | exact HB.out)) hb);clear HB;have HB:=n0_;clear n0_;(try clear hb);(try clear hb2);(try clear hk);(try clear hi)))
  go_ret2
  exact ⟨_,by first | rfl | (simp [errW_none,errW_some] <;> rfl) | (simp [*,errW_none,errW_some] <;> rfl),by first | exact Kd.R_nil _ _ _ _ _ | exact Kd.N_nil _ _ _ _ _ | exact Kd.V_nil _ _ _ _ _ | exact Kd.Q_nil _ _ _ _ _ | exact Kd.S_nil _ _ _ _ _,by repeat (first | (with_reducible first | exact HB.out | apply below_alloc | apply pw_below_drewN | apply below_drew1) | exact HB.out)⟩

end Go.Proofs.Ythfbnadlpninaaa.PFnExactFreeLengths
