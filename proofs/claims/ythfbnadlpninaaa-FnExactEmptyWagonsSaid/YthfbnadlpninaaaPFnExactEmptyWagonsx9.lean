-- Written by a program of this session, over the kit's print (wip/xprint.py)
import Derived.Test.YthfbnadlpninaaaPFnExactEmptyWagonsx0
import Derived.Test.YthfbnadlpninaaaPFnExactEmptyWagonsx6
import Derived.Test.YthfbnadlpninaaaPFnExactEmptyWagonsx7
import Derived.Test.YthfbnadlpninaaaPFnExactEmptyWagonsx8
namespace Go.Proofs.Ythfbnadlpninaaa.PFnExactEmptyWagons
open Go.RowKit Go.Proofs.YthfbnadlpninaaaW.PrintWords Go.Proofs.YthfbnadlpninaaaW.PrintLast Go.Proofs.YthfbnadlpninaaaW.PrintMore
attribute [local go_sem] max2_int min2_int max_two min_two max_three min_three max_four min_four   -- for this text's walks alone
set_option linter.unusedVariables false
set_option linter.unusedSimpArgs false

/-! ### impl_isLoaded: function 72 -/
def impl_isLoaded.l0 : Nat → List Int → List Int → List (S70) → Int → Int → Option (Bool)
 | 0,_,_,_,_,_ => none
 | k + 1,x7,x8,x18,x19,x20 => if x20 < x19 then (if 0 ≤ x20 then (if x20 < (x18.length : Int) then (if x20 < (x7.length : Int) then (if (rd x7 x20) > ((rd_T70 x18 x20).f0) then (some false) else (if x20 < (x8.length : Int) then (if (rd x8 x20) > ((rd_T70 x18 x20).f1) then (some false) else (impl_isLoaded.l0 k x7 x8 x18 x19 (wrap64 (x20 + 1)))) else (none))) else (none)) else (none)) else (none)) else (some true)
def impl_isLoaded.f (k : Nat) (l0 : List (S70)) (l1 : List (S64)) (l2 : List Int) : Option (Bool):=(impl_usage.f k l0 l1 l2).bind fun bt242 => (impl_isLoaded.l0 k bt242.1 bt242.2 l0 (l0.length : Int) 0)
theorem impl_isLoaded.mono_l : ∀ k,(∀ y0 y1 y2 y3 y4,LeO (impl_isLoaded.l0 k y0 y1 y2 y3 y4) (impl_isLoaded.l0 (k + 1) y0 y1 y2 y3 y4))
 | 0 => fun _ _ _ _ _ r h => by simp [impl_isLoaded.l0] at h
 | k + 1 => by
  have ih0:=impl_isLoaded.mono_l k
  ·intro y0 y1 y2 y3 y4
   unfold impl_isLoaded.l0
   repeat' first
   | (with_reducible exact ih0 _ _ _ _ _)
   | (with_reducible exact impl_usage.mono _ _ _ _)
   | (with_reducible exact LeO.refl _)
   | (with_reducible exact LeO.none _)
   | (with_reducible refine LeO.ite ?_ ?_)
   | (with_reducible refine LeO.bind ?_ (fun _ => ?_))
   | exact ih0 _ _ _ _ _
   | exact impl_usage.mono _ _ _ _
   | exact LeO.none _
   | refine LeO.ite ?_ ?_
   | refine LeO.bind ?_ (fun _ => ?_)
theorem impl_isLoaded.mono : ∀ a0 a1 a2 k,LeO (impl_isLoaded.f k a0 a1 a2) (impl_isLoaded.f (k + 1) a0 a1 a2):=by
 intro a0 a1 a2 k
 have ih0:=impl_isLoaded.mono_l k
 unfold impl_isLoaded.f
 repeat' first
   | (with_reducible exact ih0 _ _ _ _ _)
   | (with_reducible exact impl_usage.mono _ _ _ _)
   | (with_reducible exact LeO.refl _)
   | (with_reducible exact LeO.none _)
   | (with_reducible refine LeO.ite ?_ ?_)
   | (with_reducible refine LeO.bind ?_ (fun _ => ?_))
   | exact ih0 _ _ _ _ _
   | exact impl_usage.mono _ _ _ _
   | exact LeO.none _
   | refine LeO.ite ?_ ?_
   | refine LeO.bind ?_ (fun _ => ?_)
set_option maxHeartbeats 8000000 in
set_option maxRecDepth 100000 in
theorem impl_isLoaded.calls (k : Nat) (A0 : Option Addr) (c0 : Nat) (l0 : List (S70)) (A1 : Option Addr) (c1 : Nat) (l1 : List (S64)) (A2 : Option Addr) (c2 : Nat) (l2 : List Int) (r : Bool) (w : World) (hr0 : Kd.C k70 w A0 l0.length l0) (hc0 : l0.length ≤ c0) (hr1 : Kd.C k64 w A1 l1.length l1) (hc1 : l1.length ≤ c1) (hr2 : Kd.C (Kd.int .i64) w A2 l2.length l2) (hc2 : l2.length ≤ c2) (h : impl_isLoaded.f k l0 l1 l2 = some r) :
  Calls Try.prog 72 #[.slice A0 l0.length c0, .slice A1 l1.length c1, .slice A2 l2.length c2] w fun e w' => e = .returned (.bool r) ∧ Below w.heap.size w w':=by
 have hu70:=Try.underlying70
 have HR0:=Aside0.mk hr0
 have HC0:=Aside0.mk hc0
 clear hr0 hc0
 have HR1:=Aside0.mk hr1
 have HC1:=Aside0.mk hc1
 clear hr1 hc1
 have HR2:=Aside0.mk hr2
 have HC2:=Aside0.mk hc2
 clear hr2 hc2
 have HB:=Aside0.mk (Below.refl w.heap.size w)
 have H : ((impl_usage.f k l0 l1 l2).bind fun bt242 => (impl_isLoaded.l0 k bt242.1 bt242.2 l0 (l0.length : Int) 0)) = some r:=h
 clear h
 replace H:=Option.bind_eq_some_iff.mp H
 obtain ⟨⟨t242,t243⟩,A40,H⟩ := H
 replace H : (impl_isLoaded.l0 k t242 t243 l0 (l0.length : Int) 0) = some r:=H
 have A4:=Aside0.mk A40
 clear A40
 have H':=Aside0.mk H
 clear H
 go_enter Try.func72,Try.ntmps72
 go_wp2_with (first | (go_at_call 82;(with_reducible refine (impl_usage.calls k _ _ l0 _ _ l1 _ _ l2 t242 t243 _ ?side1 ?side2 ?side3 ?side4 ?side5 ?side6 A4.out).mono ?_);(case side1 => repeat (first | exact HR0.out | (with_reducible refine Kd.C_alloc ?_ _) | (with_reducible refine Kd.C_drewN ?_ _) | (with_reducible refine Kd.C_drew ?_)));(case side2 => exact HC0.out);(case side3 => repeat (first | exact HR1.out | (with_reducible refine Kd.C_alloc ?_ _) | (with_reducible refine Kd.C_drewN ?_ _) | (with_reducible refine Kd.C_drew ?_)));(case side4 => exact HC1.out);(case side5 => repeat (first | exact HR2.out | (with_reducible refine Kd.C_alloc ?_ _) | (with_reducible refine Kd.C_drewN ?_ _) | (with_reducible refine Kd.C_drew ?_)));(case side6 => exact HC2.out);rintro e w5 ⟨v244,v246,rfl,ho0,ho1,hb⟩;have n0_:=Aside0.mk (Kd.R_lower ho0 (below_size (by repeat (first | (with_reducible first | exact HB.out | apply below_alloc | apply pw_below_drewN | apply below_drew1) | exact HB.out))));have n1_:=Aside0.mk (Kd.R_lower ho1 (below_size (by repeat (first | (with_reducible first | exact HB.out | apply below_alloc | apply pw_below_drewN | apply below_drew1) | exact HB.out))));have n2_:=Aside0.mk (below_step (by repeat (first | (with_reducible first | exact HB.out | apply below_alloc | apply pw_below_drewN | apply below_drew1) | exact HB.out)) hb);clear HB;have HO245:=n0_;have HO247:=n1_;have HB:=n2_;clear n0_ n1_ n2_;(try clear hb);(try clear hb2);(try clear hk);(try clear hi);(try clear ho0);(try clear ho1)))
 repeat (go_quiet (first | (go_at_call 82;(with_reducible refine (impl_usage.calls k _ _ l0 _ _ l1 _ _ l2 t242 t243 _ ?side1 ?side2 ?side3 ?side4 ?side5 ?side6 A4.out).mono ?_);(case side1 => repeat (first | exact HR0.out | (with_reducible refine Kd.C_alloc ?_ _) | (with_reducible refine Kd.C_drewN ?_ _) | (with_reducible refine Kd.C_drew ?_)));(case side2 => exact HC0.out);(case side3 => repeat (first | exact HR1.out | (with_reducible refine Kd.C_alloc ?_ _) | (with_reducible refine Kd.C_drewN ?_ _) | (with_reducible refine Kd.C_drew ?_)));(case side4 => exact HC1.out);(case side5 => repeat (first | exact HR2.out | (with_reducible refine Kd.C_alloc ?_ _) | (with_reducible refine Kd.C_drewN ?_ _) | (with_reducible refine Kd.C_drew ?_)));(case side6 => exact HC2.out);rintro e w5 ⟨v244,v246,rfl,ho0,ho1,hb⟩;have n0_:=Aside0.mk (Kd.R_lower ho0 (below_size (by repeat (first | (with_reducible first | exact HB.out | apply below_alloc | apply pw_below_drewN | apply below_drew1) | exact HB.out))));have n1_:=Aside0.mk (Kd.R_lower ho1 (below_size (by repeat (first | (with_reducible first | exact HB.out | apply below_alloc | apply pw_below_drewN | apply below_drew1) | exact HB.out))));have n2_:=Aside0.mk (below_step (by repeat (first | (with_reducible first | exact HB.out | apply below_alloc | apply pw_below_drewN | apply below_drew1) | exact HB.out)) hb);clear HB;have HO245:=n0_;have HO247:=n1_;have HB:=n2_;clear n0_ n1_ n2_;(try clear hb);(try clear hb2);(try clear hk);(try clear hi);(try clear ho0);(try clear ho1)));try go_wp2_with (first | (go_at_call 82;(with_reducible refine (impl_usage.calls k _ _ l0 _ _ l1 _ _ l2 t242 t243 _ ?side1 ?side2 ?side3 ?side4 ?side5 ?side6 A4.out).mono ?_);(case side1 => repeat (first | exact HR0.out | (with_reducible refine Kd.C_alloc ?_ _) | (with_reducible refine Kd.C_drewN ?_ _) | (with_reducible refine Kd.C_drew ?_)));(case side2 => exact HC0.out);(case side3 => repeat (first | exact HR1.out | (with_reducible refine Kd.C_alloc ?_ _) | (with_reducible refine Kd.C_drewN ?_ _) | (with_reducible refine Kd.C_drew ?_)));(case side4 => exact HC1.out);(case side5 => repeat (first | exact HR2.out | (with_reducible refine Kd.C_alloc ?_ _) | (with_reducible refine Kd.C_drewN ?_ _) | (with_reducible refine Kd.C_drew ?_)));(case side6 => exact HC2.out);rintro e w5 ⟨v244,v246,rfl,ho0,ho1,hb⟩;have n0_:=Aside0.mk (Kd.R_lower ho0 (below_size (by repeat (first | (with_reducible first | exact HB.out | apply below_alloc | apply pw_below_drewN | apply below_drew1) | exact HB.out))));have n1_:=Aside0.mk (Kd.R_lower ho1 (below_size (by repeat (first | (with_reducible first | exact HB.out | apply below_alloc | apply pw_below_drewN | apply below_drew1) | exact HB.out))));have n2_:=Aside0.mk (below_step (by repeat (first | (with_reducible first | exact HB.out | apply below_alloc | apply pw_below_drewN | apply below_drew1) | exact HB.out)) hb);clear HB;have HO245:=n0_;have HO247:=n1_;have HB:=n2_;clear n0_ n1_ n2_;(try clear hb);(try clear hb2);(try clear hk);(try clear hi);(try clear ho0);(try clear ho1))))
 go_loopg [20] k (fun kq v20 w' => ∃ (x20_1 : Int),v20 = .int .i64 x20_1 ∧ Aside0 (impl_isLoaded.l0 kq t242 t243 l0 (l0.length : Int) x20_1 = some r) ∧ Aside0 (kq ≤ k) ∧ Aside0 (Kd.R (Kd.int .i64) 3 w' w.heap.size (fun k_ => some k_ ≠ (v246 : Value).ownBlock) v244 t242) ∧ Aside0 (Kd.R (Kd.int .i64) 3 w' w.heap.size (fun k_ => some k_ ≠ (v244 : Value).ownBlock) v246 t243) ∧ Aside0 (Below w.heap.size w w'))
 case atStart => exact ⟨(0),(by first | rfl | (simp;done) | (simp [*];done)),H',⟨Nat.le_refl _⟩,⟨by (with_reducible repeat (first | apply Kd.R_alloc | apply Kd.R_drewN | apply Kd.R_drew));exact HO245.out⟩,⟨by (with_reducible repeat (first | apply Kd.R_alloc | apply Kd.R_drewN | apply Kd.R_drew));exact HO247.out⟩,⟨by repeat (first | (with_reducible first | exact HB.out | apply below_alloc | apply pw_below_drewN | apply below_drew1) | exact HB.out)⟩⟩
 case round =>
  clear H'
  try clear c1
  try clear c2
  try clear p2
  obtain ⟨x20_1,rfl,HA,HK1,HO_7,HO_8,HB⟩ := hrel
  cases gk with
  | zero => exact absurd HA.out (by simp [impl_isLoaded.l0])
  | succ k1 =>
   have H:=HA.out
   clear HA
   simp only [impl_isLoaded.l0] at H
   by_cases c6 : x20_1 < (l0.length : Int)
   ·rw [if_pos c6] at H
    have c6b0 : decide (x20_1 < (l0.length : Int)) = true:=decide_eq_true c6
    clear c6
    by_cases c7 : 0 ≤ x20_1
    ·rw [if_pos c7] at H
     have c7b0 : decide (0 ≤ x20_1) = true:=decide_eq_true c7
     clear c7
     by_cases c8 : x20_1 < (l0.length : Int)
     ·rw [if_pos c8] at H
      have c8b0 : decide (x20_1 < (l0.length : Int)) = true:=decide_eq_true c8
      clear c8
      by_cases c9 : x20_1 < (t242.length : Int)
      ·rw [if_pos c9] at H
       have c9b0 : decide (x20_1 < (t242.length : Int)) = true:=decide_eq_true c9
       clear c9
       by_cases c10 : (rd t242 x20_1) > ((rd_T70 l0 x20_1).f0)
       ·rw [if_pos c10] at H
        have c10b0 : decide (((rd_T70 l0 x20_1).f0) < (rd t242 x20_1)) = true:=decide_eq_true c10
        clear c10
        obtain rfl:=Option.some.inj H
        have p248 : 0 ≤ (x20_1 : Int):=of_decide_eq_true (by first | (with_reducible assumption) | assumption)
        have q248 : x20_1 < (l0.length : Int):=of_decide_eq_true (by first | (with_reducible assumption) | assumption)
        obtain ⟨ad248,e248,hx248_0,hx248_1⟩ := at_T70 HR0.out x20_1 p248 q248
        cases e248
        replace hx248_0:=(HB.out.cell (World.block_lt_of_cell? w _ hx248_0)).trans hx248_0
        replace hx248_1:=(HB.out.cell (World.block_lt_of_cell? w _ hx248_1)).trans hx248_1
        replace p248:=eq_true p248
        replace q248:=eq_true q248
        go_wp2_with (first | ((with_reducible refine gate_dst (N:=10) rfl ?_);refine box_event ?hg (N:=10) ?hd (cs:=#[.int .i64 0, .int .i64 0]) (t:=70) ?hr ?_;(case hd => rfl);(case hg => rfl);(case hr => first | (go_simp;done) | (go_simp;rfl));intro gb249 hg w11 hbox hb;have n0_:=Aside0.mk (Kd.R_below (by (with_reducible repeat (first | apply Kd.R_alloc | apply Kd.R_drewN | apply Kd.R_drew));exact HO_7.out) hb);have n1_:=Aside0.mk (Kd.R_below (by (with_reducible repeat (first | apply Kd.R_alloc | apply Kd.R_drewN | apply Kd.R_drew));exact HO_8.out) hb);have n2_:=Aside0.mk (below_step (by repeat (first | (with_reducible first | exact HB.out | apply below_alloc | apply pw_below_drewN | apply below_drew1) | exact HB.out)) hb);have n3_:=Aside0.mk (hbox);have n4_:=Aside0.mk ((by rw [hg];exact (below_size (by repeat (first | (with_reducible first | exact HB.out | apply below_alloc | apply pw_below_drewN | apply below_drew1) | exact HB.out))) : w.heap.size ≤ gb249));have n5_:=Aside0.mk ((by rw [hg];exact (below_size (by repeat (first | (with_reducible first | exact HB.out | apply below_alloc | apply pw_below_drewN | apply below_drew1) | exact HB.out))) : w.heap.size ≤ gb249));clear HO_7;clear HO_8;clear HB;have HO_7:=n0_;have HO_8:=n1_;have HB:=n2_;have BK249:=n3_;have GW249:=n4_;have GE249:=n5_;clear n0_ n1_ n2_ n3_ n4_ n5_;clear hb hbox hg;have hcz12_0 : w11.cell? ⟨gb249,0,none⟩ = some (.int .i64 0):=(blk_cell BK249.out 0).trans rfl;have hcz12_1 : w11.cell? ⟨gb249,1,none⟩ = some (.int .i64 0):=(blk_cell BK249.out 1).trans rfl;have hfz12_0:=blk_frozen BK249.out 0;have hfz12_1:=blk_frozen BK249.out 1;obtain ⟨Ao13,co13,eo13⟩ := Kd.R_slice HO_7.out;subst eo13;have p250 : 0 ≤ (x20_1 : Int):=of_decide_eq_true (by first | (with_reducible assumption) | assumption);have q250 : x20_1 < (t242.length : Int):=of_decide_eq_true (by first | (with_reducible assumption) | assumption);obtain ⟨ad250,e250,hx250_0⟩ := Kd.at_int (Kd.R_reads' HO_7.out).2.2 x20_1 p250 q250;cases e250;have hn250_0 : ad250.block ≠ gb249:=Kd.own_blk (Kd.R_ne HO_7.out BK249.out (by decide));have hn250_1 : ad250.block ≠ gb249:=Kd.own_blk (Kd.R_ne HO_7.out BK249.out (by decide));replace hx250_0:=(cell_far (p:=⟨gb249,0,none⟩) (by first | (rw [add_block];exact hn250_0) | (show (Addr.add _ _).block ≠ _;rw [add_block];exact hn250_0) | exact hn250_0) (.int .i64 ((rd_T70 l0 x20_1).f0))).trans hx250_0;replace hx250_0:=(cell_far (p:=⟨gb249,1,none⟩) (by first | (rw [add_block];exact hn250_1) | (show (Addr.add _ _).block ≠ _;rw [add_block];exact hn250_1) | exact hn250_1) (.int .i64 ((rd_T70 l0 x20_1).f1))).trans hx250_0;(try have hy250_0:=fun (n_ : Nat) => (show ((((w11.drewN n_).setCell ⟨gb249,0,none⟩ (.int .i64 ((rd_T70 l0 x20_1).f0))).setCell ⟨gb249,1,none⟩ (.int .i64 ((rd_T70 l0 x20_1).f1)))).cell? _ = some _ from hx250_0));clear hn250_0;clear hn250_1;replace p250:=eq_true p250;replace q250:=eq_true q250))
        repeat (go_quiet (first | ((with_reducible refine gate_dst (N:=10) rfl ?_);refine box_event ?hg (N:=10) ?hd (cs:=#[.int .i64 0, .int .i64 0]) (t:=70) ?hr ?_;(case hd => rfl);(case hg => rfl);(case hr => first | (go_simp;done) | (go_simp;rfl));intro gb249 hg w11 hbox hb;have n0_:=Aside0.mk (Kd.R_below (by (with_reducible repeat (first | apply Kd.R_alloc | apply Kd.R_drewN | apply Kd.R_drew));exact HO_7.out) hb);have n1_:=Aside0.mk (Kd.R_below (by (with_reducible repeat (first | apply Kd.R_alloc | apply Kd.R_drewN | apply Kd.R_drew));exact HO_8.out) hb);have n2_:=Aside0.mk (below_step (by repeat (first | (with_reducible first | exact HB.out | apply below_alloc | apply pw_below_drewN | apply below_drew1) | exact HB.out)) hb);have n3_:=Aside0.mk (hbox);have n4_:=Aside0.mk ((by rw [hg];exact (below_size (by repeat (first | (with_reducible first | exact HB.out | apply below_alloc | apply pw_below_drewN | apply below_drew1) | exact HB.out))) : w.heap.size ≤ gb249));have n5_:=Aside0.mk ((by rw [hg];exact (below_size (by repeat (first | (with_reducible first | exact HB.out | apply below_alloc | apply pw_below_drewN | apply below_drew1) | exact HB.out))) : w.heap.size ≤ gb249));clear HO_7;clear HO_8;clear HB;have HO_7:=n0_;have HO_8:=n1_;have HB:=n2_;have BK249:=n3_;have GW249:=n4_;have GE249:=n5_;clear n0_ n1_ n2_ n3_ n4_ n5_;clear hb hbox hg;have hcz12_0 : w11.cell? ⟨gb249,0,none⟩ = some (.int .i64 0):=(blk_cell BK249.out 0).trans rfl;have hcz12_1 : w11.cell? ⟨gb249,1,none⟩ = some (.int .i64 0):=(blk_cell BK249.out 1).trans rfl;have hfz12_0:=blk_frozen BK249.out 0;have hfz12_1:=blk_frozen BK249.out 1;obtain ⟨Ao13,co13,eo13⟩ := Kd.R_slice HO_7.out;subst eo13;have p250 : 0 ≤ (x20_1 : Int):=of_decide_eq_true (by first | (with_reducible assumption) | assumption);have q250 : x20_1 < (t242.length : Int):=of_decide_eq_true (by first | (with_reducible assumption) | assumption);obtain ⟨ad250,e250,hx250_0⟩ := Kd.at_int (Kd.R_reads' HO_7.out).2.2 x20_1 p250 q250;cases e250;have hn250_0 : ad250.block ≠ gb249:=Kd.own_blk (Kd.R_ne HO_7.out BK249.out (by decide));have hn250_1 : ad250.block ≠ gb249:=Kd.own_blk (Kd.R_ne HO_7.out BK249.out (by decide));replace hx250_0:=(cell_far (p:=⟨gb249,0,none⟩) (by first | (rw [add_block];exact hn250_0) | (show (Addr.add _ _).block ≠ _;rw [add_block];exact hn250_0) | exact hn250_0) (.int .i64 ((rd_T70 l0 x20_1).f0))).trans hx250_0;replace hx250_0:=(cell_far (p:=⟨gb249,1,none⟩) (by first | (rw [add_block];exact hn250_1) | (show (Addr.add _ _).block ≠ _;rw [add_block];exact hn250_1) | exact hn250_1) (.int .i64 ((rd_T70 l0 x20_1).f1))).trans hx250_0;(try have hy250_0:=fun (n_ : Nat) => (show ((((w11.drewN n_).setCell ⟨gb249,0,none⟩ (.int .i64 ((rd_T70 l0 x20_1).f0))).setCell ⟨gb249,1,none⟩ (.int .i64 ((rd_T70 l0 x20_1).f1)))).cell? _ = some _ from hx250_0));clear hn250_0;clear hn250_1;replace p250:=eq_true p250;replace q250:=eq_true q250));try go_wp2_with (first | ((with_reducible refine gate_dst (N:=10) rfl ?_);refine box_event ?hg (N:=10) ?hd (cs:=#[.int .i64 0, .int .i64 0]) (t:=70) ?hr ?_;(case hd => rfl);(case hg => rfl);(case hr => first | (go_simp;done) | (go_simp;rfl));intro gb249 hg w11 hbox hb;have n0_:=Aside0.mk (Kd.R_below (by (with_reducible repeat (first | apply Kd.R_alloc | apply Kd.R_drewN | apply Kd.R_drew));exact HO_7.out) hb);have n1_:=Aside0.mk (Kd.R_below (by (with_reducible repeat (first | apply Kd.R_alloc | apply Kd.R_drewN | apply Kd.R_drew));exact HO_8.out) hb);have n2_:=Aside0.mk (below_step (by repeat (first | (with_reducible first | exact HB.out | apply below_alloc | apply pw_below_drewN | apply below_drew1) | exact HB.out)) hb);have n3_:=Aside0.mk (hbox);have n4_:=Aside0.mk ((by rw [hg];exact (below_size (by repeat (first | (with_reducible first | exact HB.out | apply below_alloc | apply pw_below_drewN | apply below_drew1) | exact HB.out))) : w.heap.size ≤ gb249));have n5_:=Aside0.mk ((by rw [hg];exact (below_size (by repeat (first | (with_reducible first | exact HB.out | apply below_alloc | apply pw_below_drewN | apply below_drew1) | exact HB.out))) : w.heap.size ≤ gb249));clear HO_7;clear HO_8;clear HB;have HO_7:=n0_;have HO_8:=n1_;have HB:=n2_;have BK249:=n3_;have GW249:=n4_;have GE249:=n5_;clear n0_ n1_ n2_ n3_ n4_ n5_;clear hb hbox hg;have hcz12_0 : w11.cell? ⟨gb249,0,none⟩ = some (.int .i64 0):=(blk_cell BK249.out 0).trans rfl;have hcz12_1 : w11.cell? ⟨gb249,1,none⟩ = some (.int .i64 0):=(blk_cell BK249.out 1).trans rfl;have hfz12_0:=blk_frozen BK249.out 0;have hfz12_1:=blk_frozen BK249.out 1;obtain ⟨Ao13,co13,eo13⟩ := Kd.R_slice HO_7.out;subst eo13;have p250 : 0 ≤ (x20_1 : Int):=of_decide_eq_true (by first | (with_reducible assumption) | assumption);have q250 : x20_1 < (t242.length : Int):=of_decide_eq_true (by first | (with_reducible assumption) | assumption);obtain ⟨ad250,e250,hx250_0⟩ := Kd.at_int (Kd.R_reads' HO_7.out).2.2 x20_1 p250 q250;cases e250;have hn250_0 : ad250.block ≠ gb249:=Kd.own_blk (Kd.R_ne HO_7.out BK249.out (by decide));have hn250_1 : ad250.block ≠ gb249:=Kd.own_blk (Kd.R_ne HO_7.out BK249.out (by decide));replace hx250_0:=(cell_far (p:=⟨gb249,0,none⟩) (by first | (rw [add_block];exact hn250_0) | (show (Addr.add _ _).block ≠ _;rw [add_block];exact hn250_0) | exact hn250_0) (.int .i64 ((rd_T70 l0 x20_1).f0))).trans hx250_0;replace hx250_0:=(cell_far (p:=⟨gb249,1,none⟩) (by first | (rw [add_block];exact hn250_1) | (show (Addr.add _ _).block ≠ _;rw [add_block];exact hn250_1) | exact hn250_1) (.int .i64 ((rd_T70 l0 x20_1).f1))).trans hx250_0;(try have hy250_0:=fun (n_ : Nat) => (show ((((w11.drewN n_).setCell ⟨gb249,0,none⟩ (.int .i64 ((rd_T70 l0 x20_1).f0))).setCell ⟨gb249,1,none⟩ (.int .i64 ((rd_T70 l0 x20_1).f1)))).cell? _ = some _ from hx250_0));clear hn250_0;clear hn250_1;replace p250:=eq_true p250;replace q250:=eq_true q250)))
        go_ret
        exact ⟨by first | rfl | (simp [errW_none,errW_some] <;> rfl) | (simp [*,errW_none,errW_some] <;> rfl),by repeat (first | (with_reducible first | exact HB.out | apply below_alloc | apply pw_below_drewN | apply below_drew1 | refine below_set ?_ GE249.out) | exact HB.out)⟩
       ·rw [if_neg c10] at H
        have c10b0 : decide (((rd_T70 l0 x20_1).f0) < (rd t242 x20_1)) = false:=decide_eq_false c10
        clear c10
        by_cases c14 : x20_1 < (t243.length : Int)
        ·rw [if_pos c14] at H
         have c14b0 : decide (x20_1 < (t243.length : Int)) = true:=decide_eq_true c14
         clear c14
         by_cases c15 : (rd t243 x20_1) > ((rd_T70 l0 x20_1).f1)
         ·rw [if_pos c15] at H
          have c15b0 : decide (((rd_T70 l0 x20_1).f1) < (rd t243 x20_1)) = true:=decide_eq_true c15
          clear c15
          obtain rfl:=Option.some.inj H
          have p248 : 0 ≤ (x20_1 : Int):=of_decide_eq_true (by first | (with_reducible assumption) | assumption)
          have q248 : x20_1 < (l0.length : Int):=of_decide_eq_true (by first | (with_reducible assumption) | assumption)
          obtain ⟨ad248,e248,hx248_0,hx248_1⟩ := at_T70 HR0.out x20_1 p248 q248
          cases e248
          replace hx248_0:=(HB.out.cell (World.block_lt_of_cell? w _ hx248_0)).trans hx248_0
          replace hx248_1:=(HB.out.cell (World.block_lt_of_cell? w _ hx248_1)).trans hx248_1
          replace p248:=eq_true p248
          replace q248:=eq_true q248
          go_wp2_with (first | ((with_reducible refine gate_dst (N:=10) rfl ?_);refine box_event ?hg (N:=10) ?hd (cs:=#[.int .i64 0, .int .i64 0]) (t:=70) ?hr ?_;(case hd => rfl);(case hg => rfl);(case hr => first | (go_simp;done) | (go_simp;rfl));intro gb249 hg w16 hbox hb;have n0_:=Aside0.mk (Kd.R_below (by (with_reducible repeat (first | apply Kd.R_alloc | apply Kd.R_drewN | apply Kd.R_drew));exact HO_7.out) hb);have n1_:=Aside0.mk (Kd.R_below (by (with_reducible repeat (first | apply Kd.R_alloc | apply Kd.R_drewN | apply Kd.R_drew));exact HO_8.out) hb);have n2_:=Aside0.mk (below_step (by repeat (first | (with_reducible first | exact HB.out | apply below_alloc | apply pw_below_drewN | apply below_drew1) | exact HB.out)) hb);have n3_:=Aside0.mk (hbox);have n4_:=Aside0.mk ((by rw [hg];exact (below_size (by repeat (first | (with_reducible first | exact HB.out | apply below_alloc | apply pw_below_drewN | apply below_drew1) | exact HB.out))) : w.heap.size ≤ gb249));have n5_:=Aside0.mk ((by rw [hg];exact (below_size (by repeat (first | (with_reducible first | exact HB.out | apply below_alloc | apply pw_below_drewN | apply below_drew1) | exact HB.out))) : w.heap.size ≤ gb249));clear HO_7;clear HO_8;clear HB;have HO_7:=n0_;have HO_8:=n1_;have HB:=n2_;have BK249:=n3_;have GW249:=n4_;have GE249:=n5_;clear n0_ n1_ n2_ n3_ n4_ n5_;clear hb hbox hg;have hcz17_0 : w16.cell? ⟨gb249,0,none⟩ = some (.int .i64 0):=(blk_cell BK249.out 0).trans rfl;have hcz17_1 : w16.cell? ⟨gb249,1,none⟩ = some (.int .i64 0):=(blk_cell BK249.out 1).trans rfl;have hfz17_0:=blk_frozen BK249.out 0;have hfz17_1:=blk_frozen BK249.out 1;obtain ⟨Ao18,co18,eo18⟩ := Kd.R_slice HO_7.out;subst eo18;have p250 : 0 ≤ (x20_1 : Int):=of_decide_eq_true (by first | (with_reducible assumption) | assumption);have q250 : x20_1 < (t242.length : Int):=of_decide_eq_true (by first | (with_reducible assumption) | assumption);obtain ⟨ad250,e250,hx250_0⟩ := Kd.at_int (Kd.R_reads' HO_7.out).2.2 x20_1 p250 q250;cases e250;have hn250_0 : ad250.block ≠ gb249:=Kd.own_blk (Kd.R_ne HO_7.out BK249.out (by decide));have hn250_1 : ad250.block ≠ gb249:=Kd.own_blk (Kd.R_ne HO_7.out BK249.out (by decide));replace hx250_0:=(cell_far (p:=⟨gb249,0,none⟩) (by first | (rw [add_block];exact hn250_0) | (show (Addr.add _ _).block ≠ _;rw [add_block];exact hn250_0) | exact hn250_0) (.int .i64 ((rd_T70 l0 x20_1).f0))).trans hx250_0;replace hx250_0:=(cell_far (p:=⟨gb249,1,none⟩) (by first | (rw [add_block];exact hn250_1) | (show (Addr.add _ _).block ≠ _;rw [add_block];exact hn250_1) | exact hn250_1) (.int .i64 ((rd_T70 l0 x20_1).f1))).trans hx250_0;(try have hy250_0:=fun (n_ : Nat) => (show ((((w16.drewN n_).setCell ⟨gb249,0,none⟩ (.int .i64 ((rd_T70 l0 x20_1).f0))).setCell ⟨gb249,1,none⟩ (.int .i64 ((rd_T70 l0 x20_1).f1)))).cell? _ = some _ from hx250_0));clear hn250_0;clear hn250_1;replace p250:=eq_true p250;replace q250:=eq_true q250;obtain ⟨Ao19,co19,eo19⟩ := Kd.R_slice HO_8.out;subst eo19;have p251 : 0 ≤ (x20_1 : Int):=of_decide_eq_true (by first | (with_reducible assumption) | assumption);have q251 : x20_1 < (t243.length : Int):=of_decide_eq_true (by first | (with_reducible assumption) | assumption);obtain ⟨ad251,e251,hx251_0⟩ := Kd.at_int (Kd.R_reads' HO_8.out).2.2 x20_1 p251 q251;cases e251;have hn251_0 : ad251.block ≠ gb249:=Kd.own_blk (Kd.R_ne HO_8.out BK249.out (by decide));have hn251_1 : ad251.block ≠ gb249:=Kd.own_blk (Kd.R_ne HO_8.out BK249.out (by decide));replace hx251_0:=(cell_far (p:=⟨gb249,0,none⟩) (by first | (rw [add_block];exact hn251_0) | (show (Addr.add _ _).block ≠ _;rw [add_block];exact hn251_0) | exact hn251_0) (.int .i64 ((rd_T70 l0 x20_1).f0))).trans hx251_0;replace hx251_0:=(cell_far (p:=⟨gb249,1,none⟩) (by first | (rw [add_block];exact hn251_1) | (show (Addr.add _ _).block ≠ _;rw [add_block];exact hn251_1) | exact hn251_1) (.int .i64 ((rd_T70 l0 x20_1).f1))).trans hx251_0;(try have hy251_0:=fun (n_ : Nat) => (show ((((w16.drewN n_).setCell ⟨gb249,0,none⟩ (.int .i64 ((rd_T70 l0 x20_1).f0))).setCell ⟨gb249,1,none⟩ (.int .i64 ((rd_T70 l0 x20_1).f1)))).cell? _ = some _ from hx251_0));clear hn251_0;clear hn251_1;replace p251:=eq_true p251;replace q251:=eq_true q251))
          repeat (go_quiet (first | ((with_reducible refine gate_dst (N:=10) rfl ?_);refine box_event ?hg (N:=10) ?hd (cs:=#[.int .i64 0, .int .i64 0]) (t:=70) ?hr ?_;(case hd => rfl);(case hg => rfl);(case hr => first | (go_simp;done) | (go_simp;rfl));intro gb249 hg w16 hbox hb;have n0_:=Aside0.mk (Kd.R_below (by (with_reducible repeat (first | apply Kd.R_alloc | apply Kd.R_drewN | apply Kd.R_drew));exact HO_7.out) hb);have n1_:=Aside0.mk (Kd.R_below (by (with_reducible repeat (first | apply Kd.R_alloc | apply Kd.R_drewN | apply Kd.R_drew));exact HO_8.out) hb);have n2_:=Aside0.mk (below_step (by repeat (first | (with_reducible first | exact HB.out | apply below_alloc | apply pw_below_drewN | apply below_drew1) | exact HB.out)) hb);have n3_:=Aside0.mk (hbox);have n4_:=Aside0.mk ((by rw [hg];exact (below_size (by repeat (first | (with_reducible first | exact HB.out | apply below_alloc | apply pw_below_drewN | apply below_drew1) | exact HB.out))) : w.heap.size ≤ gb249));have n5_:=Aside0.mk ((by rw [hg];exact (below_size (by repeat (first | (with_reducible first | exact HB.out | apply below_alloc | apply pw_below_drewN | apply below_drew1) | exact HB.out))) : w.heap.size ≤ gb249));clear HO_7;clear HO_8;clear HB;have HO_7:=n0_;have HO_8:=n1_;have HB:=n2_;have BK249:=n3_;have GW249:=n4_;have GE249:=n5_;clear n0_ n1_ n2_ n3_ n4_ n5_;clear hb hbox hg;have hcz17_0 : w16.cell? ⟨gb249,0,none⟩ = some (.int .i64 0):=(blk_cell BK249.out 0).trans rfl;have hcz17_1 : w16.cell? ⟨gb249,1,none⟩ = some (.int .i64 0):=(blk_cell BK249.out 1).trans rfl;have hfz17_0:=blk_frozen BK249.out 0;have hfz17_1:=blk_frozen BK249.out 1;obtain ⟨Ao18,co18,eo18⟩ := Kd.R_slice HO_7.out;subst eo18;have p250 : 0 ≤ (x20_1 : Int):=of_decide_eq_true (by first | (with_reducible assumption) | assumption);have q250 : x20_1 < (t242.length : Int):=of_decide_eq_true (by first | (with_reducible assumption) | assumption);obtain ⟨ad250,e250,hx250_0⟩ := Kd.at_int (Kd.R_reads' HO_7.out).2.2 x20_1 p250 q250;cases e250;have hn250_0 : ad250.block ≠ gb249:=Kd.own_blk (Kd.R_ne HO_7.out BK249.out (by decide));have hn250_1 : ad250.block ≠ gb249:=Kd.own_blk (Kd.R_ne HO_7.out BK249.out (by decide));replace hx250_0:=(cell_far (p:=⟨gb249,0,none⟩) (by first | (rw [add_block];exact hn250_0) | (show (Addr.add _ _).block ≠ _;rw [add_block];exact hn250_0) | exact hn250_0) (.int .i64 ((rd_T70 l0 x20_1).f0))).trans hx250_0;replace hx250_0:=(cell_far (p:=⟨gb249,1,none⟩) (by first | (rw [add_block];exact hn250_1) | (show (Addr.add _ _).block ≠ _;rw [add_block];exact hn250_1) | exact hn250_1) (.int .i64 ((rd_T70 l0 x20_1).f1))).trans hx250_0;(try have hy250_0:=fun (n_ : Nat) => (show ((((w16.drewN n_).setCell ⟨gb249,0,none⟩ (.int .i64 ((rd_T70 l0 x20_1).f0))).setCell ⟨gb249,1,none⟩ (.int .i64 ((rd_T70 l0 x20_1).f1)))).cell? _ = some _ from hx250_0));clear hn250_0;clear hn250_1;replace p250:=eq_true p250;replace q250:=eq_true q250;obtain ⟨Ao19,co19,eo19⟩ := Kd.R_slice HO_8.out;subst eo19;have p251 : 0 ≤ (x20_1 : Int):=of_decide_eq_true (by first | (with_reducible assumption) | assumption);have q251 : x20_1 < (t243.length : Int):=of_decide_eq_true (by first | (with_reducible assumption) | assumption);obtain ⟨ad251,e251,hx251_0⟩ := Kd.at_int (Kd.R_reads' HO_8.out).2.2 x20_1 p251 q251;cases e251;have hn251_0 : ad251.block ≠ gb249:=Kd.own_blk (Kd.R_ne HO_8.out BK249.out (by decide));have hn251_1 : ad251.block ≠ gb249:=Kd.own_blk (Kd.R_ne HO_8.out BK249.out (by decide));replace hx251_0:=(cell_far (p:=⟨gb249,0,none⟩) (by first | (rw [add_block];exact hn251_0) | (show (Addr.add _ _).block ≠ _;rw [add_block];exact hn251_0) | exact hn251_0) (.int .i64 ((rd_T70 l0 x20_1).f0))).trans hx251_0;replace hx251_0:=(cell_far (p:=⟨gb249,1,none⟩) (by first | (rw [add_block];exact hn251_1) | (show (Addr.add _ _).block ≠ _;rw [add_block];exact hn251_1) | exact hn251_1) (.int .i64 ((rd_T70 l0 x20_1).f1))).trans hx251_0;(try have hy251_0:=fun (n_ : Nat) => (show ((((w16.drewN n_).setCell ⟨gb249,0,none⟩ (.int .i64 ((rd_T70 l0 x20_1).f0))).setCell ⟨gb249,1,none⟩ (.int .i64 ((rd_T70 l0 x20_1).f1)))).cell? _ = some _ from hx251_0));clear hn251_0;clear hn251_1;replace p251:=eq_true p251;replace q251:=eq_true q251));try go_wp2_with (first | ((with_reducible refine gate_dst (N:=10) rfl ?_);refine box_event ?hg (N:=10) ?hd (cs:=#[.int .i64 0, .int .i64 0]) (t:=70) ?hr ?_;(case hd => rfl);(case hg => rfl);(case hr => first | (go_simp;done) | (go_simp;rfl));intro gb249 hg w16 hbox hb;have n0_:=Aside0.mk (Kd.R_below (by (with_reducible repeat (first | apply Kd.R_alloc | apply Kd.R_drewN | apply Kd.R_drew));exact HO_7.out) hb);have n1_:=Aside0.mk (Kd.R_below (by (with_reducible repeat (first | apply Kd.R_alloc | apply Kd.R_drewN | apply Kd.R_drew));exact HO_8.out) hb);have n2_:=Aside0.mk (below_step (by repeat (first | (with_reducible first | exact HB.out | apply below_alloc | apply pw_below_drewN | apply below_drew1) | exact HB.out)) hb);have n3_:=Aside0.mk (hbox);have n4_:=Aside0.mk ((by rw [hg];exact (below_size (by repeat (first | (with_reducible first | exact HB.out | apply below_alloc | apply pw_below_drewN | apply below_drew1) | exact HB.out))) : w.heap.size ≤ gb249));have n5_:=Aside0.mk ((by rw [hg];exact (below_size (by repeat (first | (with_reducible first | exact HB.out | apply below_alloc | apply pw_below_drewN | apply below_drew1) | exact HB.out))) : w.heap.size ≤ gb249));clear HO_7;clear HO_8;clear HB;have HO_7:=n0_;have HO_8:=n1_;have HB:=n2_;have BK249:=n3_;have GW249:=n4_;have GE249:=n5_;clear n0_ n1_ n2_ n3_ n4_ n5_;clear hb hbox hg;have hcz17_0 : w16.cell? ⟨gb249,0,none⟩ = some (.int .i64 0):=(blk_cell BK249.out 0).trans rfl;have hcz17_1 : w16.cell? ⟨gb249,1,none⟩ = some (.int .i64 0):=(blk_cell BK249.out 1).trans rfl;have hfz17_0:=blk_frozen BK249.out 0;have hfz17_1:=blk_frozen BK249.out 1;obtain ⟨Ao18,co18,eo18⟩ := Kd.R_slice HO_7.out;subst eo18;have p250 : 0 ≤ (x20_1 : Int):=of_decide_eq_true (by first | (with_reducible assumption) | assumption);have q250 : x20_1 < (t242.length : Int):=of_decide_eq_true (by first | (with_reducible assumption) | assumption);obtain ⟨ad250,e250,hx250_0⟩ := Kd.at_int (Kd.R_reads' HO_7.out).2.2 x20_1 p250 q250;cases e250;have hn250_0 : ad250.block ≠ gb249:=Kd.own_blk (Kd.R_ne HO_7.out BK249.out (by decide));have hn250_1 : ad250.block ≠ gb249:=Kd.own_blk (Kd.R_ne HO_7.out BK249.out (by decide));replace hx250_0:=(cell_far (p:=⟨gb249,0,none⟩) (by first | (rw [add_block];exact hn250_0) | (show (Addr.add _ _).block ≠ _;rw [add_block];exact hn250_0) | exact hn250_0) (.int .i64 ((rd_T70 l0 x20_1).f0))).trans hx250_0;replace hx250_0:=(cell_far (p:=⟨gb249,1,none⟩) (by first | (rw [add_block];exact hn250_1) | (show (Addr.add _ _).block ≠ _;rw [add_block];exact hn250_1) | exact hn250_1) (.int .i64 ((rd_T70 l0 x20_1).f1))).trans hx250_0;(try have hy250_0:=fun (n_ : Nat) => (show ((((w16.drewN n_).setCell ⟨gb249,0,none⟩ (.int .i64 ((rd_T70 l0 x20_1).f0))).setCell ⟨gb249,1,none⟩ (.int .i64 ((rd_T70 l0 x20_1).f1)))).cell? _ = some _ from hx250_0));clear hn250_0;clear hn250_1;replace p250:=eq_true p250;replace q250:=eq_true q250;obtain ⟨Ao19,co19,eo19⟩ := Kd.R_slice HO_8.out;subst eo19;have p251 : 0 ≤ (x20_1 : Int):=of_decide_eq_true (by first | (with_reducible assumption) | assumption);have q251 : x20_1 < (t243.length : Int):=of_decide_eq_true (by first | (with_reducible assumption) | assumption);obtain ⟨ad251,e251,hx251_0⟩ := Kd.at_int (Kd.R_reads' HO_8.out).2.2 x20_1 p251 q251;cases e251;have hn251_0 : ad251.block ≠ gb249:=Kd.own_blk (Kd.R_ne HO_8.out BK249.out (by decide));have hn251_1 : ad251.block ≠ gb249:=Kd.own_blk (Kd.R_ne HO_8.out BK249.out (by decide));replace hx251_0:=(cell_far (p:=⟨gb249,0,none⟩) (by first | (rw [add_block];exact hn251_0) | (show (Addr.add _ _).block ≠ _;rw [add_block];exact hn251_0) | exact hn251_0) (.int .i64 ((rd_T70 l0 x20_1).f0))).trans hx251_0;replace hx251_0:=(cell_far (p:=⟨gb249,1,none⟩) (by first | (rw [add_block];exact hn251_1) | (show (Addr.add _ _).block ≠ _;rw [add_block];exact hn251_1) | exact hn251_1) (.int .i64 ((rd_T70 l0 x20_1).f1))).trans hx251_0;(try have hy251_0:=fun (n_ : Nat) => (show ((((w16.drewN n_).setCell ⟨gb249,0,none⟩ (.int .i64 ((rd_T70 l0 x20_1).f0))).setCell ⟨gb249,1,none⟩ (.int .i64 ((rd_T70 l0 x20_1).f1)))).cell? _ = some _ from hx251_0));clear hn251_0;clear hn251_1;replace p251:=eq_true p251;replace q251:=eq_true q251)))
          go_ret
          exact ⟨by first | rfl | (simp [errW_none,errW_some] <;> rfl) | (simp [*,errW_none,errW_some] <;> rfl),by repeat (first | (with_reducible first | exact HB.out | apply below_alloc | apply pw_below_drewN | apply below_drew1 | refine below_set ?_ GE249.out) | exact HB.out)⟩
         ·rw [if_neg c15] at H
          have c15b0 : decide (((rd_T70 l0 x20_1).f1) < (rd t243 x20_1)) = false:=decide_eq_false c15
          clear c15
          have H':=Aside0.mk H
          clear H
          have p248 : 0 ≤ (x20_1 : Int):=of_decide_eq_true (by first | (with_reducible assumption) | assumption)
          have q248 : x20_1 < (l0.length : Int):=of_decide_eq_true (by first | (with_reducible assumption) | assumption)
          obtain ⟨ad248,e248,hx248_0,hx248_1⟩ := at_T70 HR0.out x20_1 p248 q248
          cases e248
          replace hx248_0:=(HB.out.cell (World.block_lt_of_cell? w _ hx248_0)).trans hx248_0
          replace hx248_1:=(HB.out.cell (World.block_lt_of_cell? w _ hx248_1)).trans hx248_1
          replace p248:=eq_true p248
          replace q248:=eq_true q248
          go_wp2_with (first | ((with_reducible refine gate_dst (N:=10) rfl ?_);refine box_event ?hg (N:=10) ?hd (cs:=#[.int .i64 0, .int .i64 0]) (t:=70) ?hr ?_;(case hd => rfl);(case hg => rfl);(case hr => first | (go_simp;done) | (go_simp;rfl));intro gb249 hg w20 hbox hb;have n0_:=Aside0.mk (Kd.R_below (by (with_reducible repeat (first | apply Kd.R_alloc | apply Kd.R_drewN | apply Kd.R_drew));exact HO_7.out) hb);have n1_:=Aside0.mk (Kd.R_below (by (with_reducible repeat (first | apply Kd.R_alloc | apply Kd.R_drewN | apply Kd.R_drew));exact HO_8.out) hb);have n2_:=Aside0.mk (below_step (by repeat (first | (with_reducible first | exact HB.out | apply below_alloc | apply pw_below_drewN | apply below_drew1) | exact HB.out)) hb);have n3_:=Aside0.mk (hbox);have n4_:=Aside0.mk ((by rw [hg];exact (below_size (by repeat (first | (with_reducible first | exact HB.out | apply below_alloc | apply pw_below_drewN | apply below_drew1) | exact HB.out))) : w.heap.size ≤ gb249));have n5_:=Aside0.mk ((by rw [hg];exact (below_size (by repeat (first | (with_reducible first | exact HB.out | apply below_alloc | apply pw_below_drewN | apply below_drew1) | exact HB.out))) : w.heap.size ≤ gb249));clear HO_7;clear HO_8;clear HB;have HO_7:=n0_;have HO_8:=n1_;have HB:=n2_;have BK249:=n3_;have GW249:=n4_;have GE249:=n5_;clear n0_ n1_ n2_ n3_ n4_ n5_;clear hb hbox hg;have hcz21_0 : w20.cell? ⟨gb249,0,none⟩ = some (.int .i64 0):=(blk_cell BK249.out 0).trans rfl;have hcz21_1 : w20.cell? ⟨gb249,1,none⟩ = some (.int .i64 0):=(blk_cell BK249.out 1).trans rfl;have hfz21_0:=blk_frozen BK249.out 0;have hfz21_1:=blk_frozen BK249.out 1;obtain ⟨Ao22,co22,eo22⟩ := Kd.R_slice HO_7.out;subst eo22;have p250 : 0 ≤ (x20_1 : Int):=of_decide_eq_true (by first | (with_reducible assumption) | assumption);have q250 : x20_1 < (t242.length : Int):=of_decide_eq_true (by first | (with_reducible assumption) | assumption);obtain ⟨ad250,e250,hx250_0⟩ := Kd.at_int (Kd.R_reads' HO_7.out).2.2 x20_1 p250 q250;cases e250;have hn250_0 : ad250.block ≠ gb249:=Kd.own_blk (Kd.R_ne HO_7.out BK249.out (by decide));have hn250_1 : ad250.block ≠ gb249:=Kd.own_blk (Kd.R_ne HO_7.out BK249.out (by decide));replace hx250_0:=(cell_far (p:=⟨gb249,0,none⟩) (by first | (rw [add_block];exact hn250_0) | (show (Addr.add _ _).block ≠ _;rw [add_block];exact hn250_0) | exact hn250_0) (.int .i64 ((rd_T70 l0 x20_1).f0))).trans hx250_0;replace hx250_0:=(cell_far (p:=⟨gb249,1,none⟩) (by first | (rw [add_block];exact hn250_1) | (show (Addr.add _ _).block ≠ _;rw [add_block];exact hn250_1) | exact hn250_1) (.int .i64 ((rd_T70 l0 x20_1).f1))).trans hx250_0;(try have hy250_0:=fun (n_ : Nat) => (show ((((w20.drewN n_).setCell ⟨gb249,0,none⟩ (.int .i64 ((rd_T70 l0 x20_1).f0))).setCell ⟨gb249,1,none⟩ (.int .i64 ((rd_T70 l0 x20_1).f1)))).cell? _ = some _ from hx250_0));clear hn250_0;clear hn250_1;replace p250:=eq_true p250;replace q250:=eq_true q250;obtain ⟨Ao23,co23,eo23⟩ := Kd.R_slice HO_8.out;subst eo23;have p251 : 0 ≤ (x20_1 : Int):=of_decide_eq_true (by first | (with_reducible assumption) | assumption);have q251 : x20_1 < (t243.length : Int):=of_decide_eq_true (by first | (with_reducible assumption) | assumption);obtain ⟨ad251,e251,hx251_0⟩ := Kd.at_int (Kd.R_reads' HO_8.out).2.2 x20_1 p251 q251;cases e251;have hn251_0 : ad251.block ≠ gb249:=Kd.own_blk (Kd.R_ne HO_8.out BK249.out (by decide));have hn251_1 : ad251.block ≠ gb249:=Kd.own_blk (Kd.R_ne HO_8.out BK249.out (by decide));replace hx251_0:=(cell_far (p:=⟨gb249,0,none⟩) (by first | (rw [add_block];exact hn251_0) | (show (Addr.add _ _).block ≠ _;rw [add_block];exact hn251_0) | exact hn251_0) (.int .i64 ((rd_T70 l0 x20_1).f0))).trans hx251_0;replace hx251_0:=(cell_far (p:=⟨gb249,1,none⟩) (by first | (rw [add_block];exact hn251_1) | (show (Addr.add _ _).block ≠ _;rw [add_block];exact hn251_1) | exact hn251_1) (.int .i64 ((rd_T70 l0 x20_1).f1))).trans hx251_0;(try have hy251_0:=fun (n_ : Nat) => (show ((((w20.drewN n_).setCell ⟨gb249,0,none⟩ (.int .i64 ((rd_T70 l0 x20_1).f0))).setCell ⟨gb249,1,none⟩ (.int .i64 ((rd_T70 l0 x20_1).f1)))).cell? _ = some _ from hx251_0));clear hn251_0;clear hn251_1;replace p251:=eq_true p251;replace q251:=eq_true q251))
          repeat (go_quiet (first | ((with_reducible refine gate_dst (N:=10) rfl ?_);refine box_event ?hg (N:=10) ?hd (cs:=#[.int .i64 0, .int .i64 0]) (t:=70) ?hr ?_;(case hd => rfl);(case hg => rfl);(case hr => first | (go_simp;done) | (go_simp;rfl));intro gb249 hg w20 hbox hb;have n0_:=Aside0.mk (Kd.R_below (by (with_reducible repeat (first | apply Kd.R_alloc | apply Kd.R_drewN | apply Kd.R_drew));exact HO_7.out) hb);have n1_:=Aside0.mk (Kd.R_below (by (with_reducible repeat (first | apply Kd.R_alloc | apply Kd.R_drewN | apply Kd.R_drew));exact HO_8.out) hb);have n2_:=Aside0.mk (below_step (by repeat (first | (with_reducible first | exact HB.out | apply below_alloc | apply pw_below_drewN | apply below_drew1) | exact HB.out)) hb);have n3_:=Aside0.mk (hbox);have n4_:=Aside0.mk ((by rw [hg];exact (below_size (by repeat (first | (with_reducible first | exact HB.out | apply below_alloc | apply pw_below_drewN | apply below_drew1) | exact HB.out))) : w.heap.size ≤ gb249));have n5_:=Aside0.mk ((by rw [hg];exact (below_size (by repeat (first | (with_reducible first | exact HB.out | apply below_alloc | apply pw_below_drewN | apply below_drew1) | exact HB.out))) : w.heap.size ≤ gb249));clear HO_7;clear HO_8;clear HB;have HO_7:=n0_;have HO_8:=n1_;have HB:=n2_;have BK249:=n3_;have GW249:=n4_;have GE249:=n5_;clear n0_ n1_ n2_ n3_ n4_ n5_;clear hb hbox hg;have hcz21_0 : w20.cell? ⟨gb249,0,none⟩ = some (.int .i64 0):=(blk_cell BK249.out 0).trans rfl;have hcz21_1 : w20.cell? ⟨gb249,1,none⟩ = some (.int .i64 0):=(blk_cell BK249.out 1).trans rfl;have hfz21_0:=blk_frozen BK249.out 0;have hfz21_1:=blk_frozen BK249.out 1;obtain ⟨Ao22,co22,eo22⟩ := Kd.R_slice HO_7.out;subst eo22;have p250 : 0 ≤ (x20_1 : Int):=of_decide_eq_true (by first | (with_reducible assumption) | assumption);have q250 : x20_1 < (t242.length : Int):=of_decide_eq_true (by first | (with_reducible assumption) | assumption);obtain ⟨ad250,e250,hx250_0⟩ := Kd.at_int (Kd.R_reads' HO_7.out).2.2 x20_1 p250 q250;cases e250;have hn250_0 : ad250.block ≠ gb249:=Kd.own_blk (Kd.R_ne HO_7.out BK249.out (by decide));have hn250_1 : ad250.block ≠ gb249:=Kd.own_blk (Kd.R_ne HO_7.out BK249.out (by decide));replace hx250_0:=(cell_far (p:=⟨gb249,0,none⟩) (by first | (rw [add_block];exact hn250_0) | (show (Addr.add _ _).block ≠ _;rw [add_block];exact hn250_0) | exact hn250_0) (.int .i64 ((rd_T70 l0 x20_1).f0))).trans hx250_0;replace hx250_0:=(cell_far (p:=⟨gb249,1,none⟩) (by first | (rw [add_block];exact hn250_1) | (show (Addr.add _ _).block ≠ _;rw [add_block];exact hn250_1) | exact hn250_1) (.int .i64 ((rd_T70 l0 x20_1).f1))).trans hx250_0;(try have hy250_0:=fun (n_ : Nat) => (show ((((w20.drewN n_).setCell ⟨gb249,0,none⟩ (.int .i64 ((rd_T70 l0 x20_1).f0))).setCell ⟨gb249,1,none⟩ (.int .i64 ((rd_T70 l0 x20_1).f1)))).cell? _ = some _ from hx250_0));clear hn250_0;clear hn250_1;replace p250:=eq_true p250;replace q250:=eq_true q250;obtain ⟨Ao23,co23,eo23⟩ := Kd.R_slice HO_8.out;subst eo23;have p251 : 0 ≤ (x20_1 : Int):=of_decide_eq_true (by first | (with_reducible assumption) | assumption);have q251 : x20_1 < (t243.length : Int):=of_decide_eq_true (by first | (with_reducible assumption) | assumption);obtain ⟨ad251,e251,hx251_0⟩ := Kd.at_int (Kd.R_reads' HO_8.out).2.2 x20_1 p251 q251;cases e251;have hn251_0 : ad251.block ≠ gb249:=Kd.own_blk (Kd.R_ne HO_8.out BK249.out (by decide));have hn251_1 : ad251.block ≠ gb249:=Kd.own_blk (Kd.R_ne HO_8.out BK249.out (by decide));replace hx251_0:=(cell_far (p:=⟨gb249,0,none⟩) (by first | (rw [add_block];exact hn251_0) | (show (Addr.add _ _).block ≠ _;rw [add_block];exact hn251_0) | exact hn251_0) (.int .i64 ((rd_T70 l0 x20_1).f0))).trans hx251_0;replace hx251_0:=(cell_far (p:=⟨gb249,1,none⟩) (by first | (rw [add_block];exact hn251_1) | (show (Addr.add _ _).block ≠ _;rw [add_block];exact hn251_1) | exact hn251_1) (.int .i64 ((rd_T70 l0 x20_1).f1))).trans hx251_0;(try have hy251_0:=fun (n_ : Nat) => (show ((((w20.drewN n_).setCell ⟨gb249,0,none⟩ (.int .i64 ((rd_T70 l0 x20_1).f0))).setCell ⟨gb249,1,none⟩ (.int .i64 ((rd_T70 l0 x20_1).f1)))).cell? _ = some _ from hx251_0));clear hn251_0;clear hn251_1;replace p251:=eq_true p251;replace q251:=eq_true q251));try go_wp2_with (first | ((with_reducible refine gate_dst (N:=10) rfl ?_);refine box_event ?hg (N:=10) ?hd (cs:=#[.int .i64 0, .int .i64 0]) (t:=70) ?hr ?_;(case hd => rfl);(case hg => rfl);(case hr => first | (go_simp;done) | (go_simp;rfl));intro gb249 hg w20 hbox hb;have n0_:=Aside0.mk (Kd.R_below (by (with_reducible repeat (first | apply Kd.R_alloc | apply Kd.R_drewN | apply Kd.R_drew));exact HO_7.out) hb);have n1_:=Aside0.mk (Kd.R_below (by (with_reducible repeat (first | apply Kd.R_alloc | apply Kd.R_drewN | apply Kd.R_drew));exact HO_8.out) hb);have n2_:=Aside0.mk (below_step (by repeat (first | (with_reducible first | exact HB.out | apply below_alloc | apply pw_below_drewN | apply below_drew1) | exact HB.out)) hb);have n3_:=Aside0.mk (hbox);have n4_:=Aside0.mk ((by rw [hg];exact (below_size (by repeat (first | (with_reducible first | exact HB.out | apply below_alloc | apply pw_below_drewN | apply below_drew1) | exact HB.out))) : w.heap.size ≤ gb249));have n5_:=Aside0.mk ((by rw [hg];exact (below_size (by repeat (first | (with_reducible first | exact HB.out | apply below_alloc | apply pw_below_drewN | apply below_drew1) | exact HB.out))) : w.heap.size ≤ gb249));clear HO_7;clear HO_8;clear HB;have HO_7:=n0_;have HO_8:=n1_;have HB:=n2_;have BK249:=n3_;have GW249:=n4_;have GE249:=n5_;clear n0_ n1_ n2_ n3_ n4_ n5_;clear hb hbox hg;have hcz21_0 : w20.cell? ⟨gb249,0,none⟩ = some (.int .i64 0):=(blk_cell BK249.out 0).trans rfl;have hcz21_1 : w20.cell? ⟨gb249,1,none⟩ = some (.int .i64 0):=(blk_cell BK249.out 1).trans rfl;have hfz21_0:=blk_frozen BK249.out 0;have hfz21_1:=blk_frozen BK249.out 1;obtain ⟨Ao22,co22,eo22⟩ := Kd.R_slice HO_7.out;subst eo22;have p250 : 0 ≤ (x20_1 : Int):=of_decide_eq_true (by first | (with_reducible assumption) | assumption);have q250 : x20_1 < (t242.length : Int):=of_decide_eq_true (by first | (with_reducible assumption) | assumption);obtain ⟨ad250,e250,hx250_0⟩ := Kd.at_int (Kd.R_reads' HO_7.out).2.2 x20_1 p250 q250;cases e250;have hn250_0 : ad250.block ≠ gb249:=Kd.own_blk (Kd.R_ne HO_7.out BK249.out (by decide));have hn250_1 : ad250.block ≠ gb249:=Kd.own_blk (Kd.R_ne HO_7.out BK249.out (by decide));replace hx250_0:=(cell_far (p:=⟨gb249,0,none⟩) (by first | (rw [add_block];exact hn250_0) | (show (Addr.add _ _).block ≠ _;rw [add_block];exact hn250_0) | exact hn250_0) (.int .i64 ((rd_T70 l0 x20_1).f0))).trans hx250_0;replace hx250_0:=(cell_far (p:=⟨gb249,1,none⟩) (by first | (rw [add_block];exact hn250_1) | (show (Addr.add _ _).block ≠ _;rw [add_block];exact hn250_1) | exact hn250_1) (.int .i64 ((rd_T70 l0 x20_1).f1))).trans hx250_0;(try have hy250_0:=fun (n_ : Nat) => (show ((((w20.drewN n_).setCell ⟨gb249,0,none⟩ (.int .i64 ((rd_T70 l0 x20_1).f0))).setCell ⟨gb249,1,none⟩ (.int .i64 ((rd_T70 l0 x20_1).f1)))).cell? _ = some _ from hx250_0));clear hn250_0;clear hn250_1;replace p250:=eq_true p250;replace q250:=eq_true q250;obtain ⟨Ao23,co23,eo23⟩ := Kd.R_slice HO_8.out;subst eo23;have p251 : 0 ≤ (x20_1 : Int):=of_decide_eq_true (by first | (with_reducible assumption) | assumption);have q251 : x20_1 < (t243.length : Int):=of_decide_eq_true (by first | (with_reducible assumption) | assumption);obtain ⟨ad251,e251,hx251_0⟩ := Kd.at_int (Kd.R_reads' HO_8.out).2.2 x20_1 p251 q251;cases e251;have hn251_0 : ad251.block ≠ gb249:=Kd.own_blk (Kd.R_ne HO_8.out BK249.out (by decide));have hn251_1 : ad251.block ≠ gb249:=Kd.own_blk (Kd.R_ne HO_8.out BK249.out (by decide));replace hx251_0:=(cell_far (p:=⟨gb249,0,none⟩) (by first | (rw [add_block];exact hn251_0) | (show (Addr.add _ _).block ≠ _;rw [add_block];exact hn251_0) | exact hn251_0) (.int .i64 ((rd_T70 l0 x20_1).f0))).trans hx251_0;replace hx251_0:=(cell_far (p:=⟨gb249,1,none⟩) (by first | (rw [add_block];exact hn251_1) | (show (Addr.add _ _).block ≠ _;rw [add_block];exact hn251_1) | exact hn251_1) (.int .i64 ((rd_T70 l0 x20_1).f1))).trans hx251_0;(try have hy251_0:=fun (n_ : Nat) => (show ((((w20.drewN n_).setCell ⟨gb249,0,none⟩ (.int .i64 ((rd_T70 l0 x20_1).f0))).setCell ⟨gb249,1,none⟩ (.int .i64 ((rd_T70 l0 x20_1).f1)))).cell? _ = some _ from hx251_0));clear hn251_0;clear hn251_1;replace p251:=eq_true p251;replace q251:=eq_true q251)))
          go_roundg k1
          case measure => have:=HK1.out;omega
          case rel => exact ⟨(wrap64 (x20_1 + 1)),(by first | rfl | (simp;done) | (simp [*];done)),H',⟨by have:=HK1.out;omega⟩,⟨by (with_reducible repeat (first | apply Kd.R_alloc | apply Kd.R_drewN | apply Kd.R_drew));exact Kd.R_mono (Kd.R_far (p:=⟨gb249,1,none⟩) (Kd.R_far (p:=⟨gb249,0,none⟩) (Kd.R_types HO_7.out BK249.out (by decide)) (fun _ hk => hk.2) (.int .i64 ((rd_T70 l0 x20_1).f0))) (fun _ hk => hk.2) (.int .i64 ((rd_T70 l0 x20_1).f1))) (fun _ hk => hk.1)⟩,⟨by (with_reducible repeat (first | apply Kd.R_alloc | apply Kd.R_drewN | apply Kd.R_drew));exact Kd.R_mono (Kd.R_far (p:=⟨gb249,1,none⟩) (Kd.R_far (p:=⟨gb249,0,none⟩) (Kd.R_types HO_8.out BK249.out (by decide)) (fun _ hk => hk.2) (.int .i64 ((rd_T70 l0 x20_1).f0))) (fun _ hk => hk.2) (.int .i64 ((rd_T70 l0 x20_1).f1))) (fun _ hk => hk.1)⟩,⟨by repeat (first | (with_reducible first | exact HB.out | apply below_alloc | apply pw_below_drewN | apply below_drew1 | refine below_set ?_ GE249.out) | exact HB.out)⟩⟩
        ·rw [if_neg c14] at H
         exact absurd H (by simp)
      ·rw [if_neg c9] at H
       exact absurd H (by simp)
     ·rw [if_neg c8] at H
      exact absurd H (by simp)
    ·rw [if_neg c7] at H
     exact absurd H (by simp)
   ·rw [if_neg c6] at H
    have c6b0 : decide (x20_1 < (l0.length : Int)) = false:=decide_eq_false c6
    clear c6
    obtain rfl:=Option.some.inj H
    go_wp2
    repeat (go_quiet (fail);try go_wp2)
    go_ret
    exact ⟨by first | rfl | (simp [errW_none,errW_some] <;> rfl) | (simp [*,errW_none,errW_some] <;> rfl),by repeat (first | (with_reducible first | exact HB.out | apply below_alloc | apply pw_below_drewN | apply below_drew1) | exact HB.out)⟩

/-! ### impl_IsValidLoading: function 24 -/
def impl_IsValidLoading.j0 : Nat → List (S64) → List Int → Bool → List (S70) → Option (Bool)
 | 0,_,_,_,_ => none
 | k + 1,x1,x2,x21,x253000 => if x21 = true then (some false) else ((slices_ContainsFunc_int.f k x2 x253000).bind fun t255 => (if t255 = true then (some false) else ((impl_isLoaded.f k x253000 x1 x2).bind fun t256 => (some t256))))
def impl_IsValidLoading.f (k : Nat) (l0 : List (S70)) (l1 : List (S64)) (l2 : List Int) : Option (Bool):=(impl_IsValidTrain.f k l0).bind fun t253 => (if t253 = true then ((impl_IsValidContainers.f k l1).bind fun t254 => (if t254 = true then (impl_IsValidLoading.j0 k l1 l2 ((l2.length : Int) != (l1.length : Int)) l0) else (impl_IsValidLoading.j0 k l1 l2 true l0))) else (impl_IsValidLoading.j0 k l1 l2 true l0))
theorem impl_IsValidLoading.mono_l : ∀ k,(∀ y0 y1 y2 y3,LeO (impl_IsValidLoading.j0 k y0 y1 y2 y3) (impl_IsValidLoading.j0 (k + 1) y0 y1 y2 y3))
 | 0 => fun _ _ _ _ r h => by simp [impl_IsValidLoading.j0] at h
 | k + 1 => by
  have ih0:=impl_IsValidLoading.mono_l k
  ·intro y0 y1 y2 y3
   unfold impl_IsValidLoading.j0
   repeat' first
   | (with_reducible exact ih0 _ _ _ _)
   | (with_reducible exact impl_IsValidContainers.mono _ _)
   | (with_reducible exact impl_IsValidTrain.mono _ _)
   | (with_reducible exact impl_isLoaded.mono _ _ _ _)
   | (with_reducible exact slices_ContainsFunc_int.mono _ _ _)
   | (with_reducible exact LeO.refl _)
   | (with_reducible exact LeO.none _)
   | (with_reducible refine LeO.ite ?_ ?_)
   | (with_reducible refine LeO.bind ?_ (fun _ => ?_))
   | exact ih0 _ _ _ _
   | exact impl_IsValidContainers.mono _ _
   | exact impl_IsValidTrain.mono _ _
   | exact impl_isLoaded.mono _ _ _ _
   | exact slices_ContainsFunc_int.mono _ _ _
   | exact LeO.none _
   | refine LeO.ite ?_ ?_
   | refine LeO.bind ?_ (fun _ => ?_)
theorem impl_IsValidLoading.mono : ∀ a0 a1 a2 k,LeO (impl_IsValidLoading.f k a0 a1 a2) (impl_IsValidLoading.f (k + 1) a0 a1 a2):=by
 intro a0 a1 a2 k
 have ih0:=impl_IsValidLoading.mono_l k
 unfold impl_IsValidLoading.f
 repeat' first
   | (with_reducible exact ih0 _ _ _ _)
   | (with_reducible exact impl_IsValidContainers.mono _ _)
   | (with_reducible exact impl_IsValidTrain.mono _ _)
   | (with_reducible exact impl_isLoaded.mono _ _ _ _)
   | (with_reducible exact slices_ContainsFunc_int.mono _ _ _)
   | (with_reducible exact LeO.refl _)
   | (with_reducible exact LeO.none _)
   | (with_reducible refine LeO.ite ?_ ?_)
   | (with_reducible refine LeO.bind ?_ (fun _ => ?_))
   | exact ih0 _ _ _ _
   | exact impl_IsValidContainers.mono _ _
   | exact impl_IsValidTrain.mono _ _
   | exact impl_isLoaded.mono _ _ _ _
   | exact slices_ContainsFunc_int.mono _ _ _
   | exact LeO.none _
   | refine LeO.ite ?_ ?_
   | refine LeO.bind ?_ (fun _ => ?_)
set_option maxHeartbeats 8000000 in
set_option maxRecDepth 100000 in
theorem impl_IsValidLoading.calls (k : Nat) (A0 : Option Addr) (c0 : Nat) (l0 : List (S70)) (A1 : Option Addr) (c1 : Nat) (l1 : List (S64)) (A2 : Option Addr) (c2 : Nat) (l2 : List Int) (r : Bool) (w : World) (hr0 : Kd.C k70 w A0 l0.length l0) (hc0 : l0.length ≤ c0) (hr1 : Kd.C k64 w A1 l1.length l1) (hc1 : l1.length ≤ c1) (hr2 : Kd.C (Kd.int .i64) w A2 l2.length l2) (hc2 : l2.length ≤ c2) (h : impl_IsValidLoading.f k l0 l1 l2 = some r) :
  Calls Try.prog 24 #[.slice A0 l0.length c0, .slice A1 l1.length c1, .slice A2 l2.length c2] w fun e w' => e = .returned (.bool r) ∧ Below w.heap.size w w':=by
 have HR0:=Aside0.mk hr0
 have HC0:=Aside0.mk hc0
 clear hr0 hc0
 have HR1:=Aside0.mk hr1
 have HC1:=Aside0.mk hc1
 clear hr1 hc1
 have HR2:=Aside0.mk hr2
 have HC2:=Aside0.mk hc2
 clear hr2 hc2
 have HB:=Aside0.mk (Below.refl w.heap.size w)
 have H : ((impl_IsValidTrain.f k l0).bind fun t253 => (if t253 = true then ((impl_IsValidContainers.f k l1).bind fun t254 => (if t254 = true then (impl_IsValidLoading.j0 k l1 l2 ((l2.length : Int) != (l1.length : Int)) l0) else (impl_IsValidLoading.j0 k l1 l2 true l0))) else (impl_IsValidLoading.j0 k l1 l2 true l0))) = some r:=h
 clear h
 have HC4:=Aside0.mk H
 clear H
 go_enter Try.func24,Try.ntmps24
 go_upto_region 1 with (first | ((with_reducible refine gate_dst (N:=3) rfl ?_);(try (refine gate_guard (by rfl) ?_;dsimp only));refine box_event ?hg (N:=3) ?hd (cs:=#[.slice A0 l0.length c0]) (t:=25) ?hr ?_;(case hd => rfl);(case hg => rfl);(case hr => first | (go_simp;done) | (go_simp;rfl));intro gb252 hg w5 hbox hb;have n0_:=Aside0.mk (below_step (by repeat (first | (with_reducible first | exact HB.out | apply below_alloc | apply pw_below_drewN | apply below_drew1) | exact HB.out)) hb);have n1_:=Aside0.mk (hbox);have n2_:=Aside0.mk ((by rw [hg];exact (below_size (by repeat (first | (with_reducible first | exact HB.out | apply below_alloc | apply pw_below_drewN | apply below_drew1) | exact HB.out))) : w.heap.size ≤ gb252));have n3_:=Aside0.mk ((by rw [hg];exact (below_size (by repeat (first | (with_reducible first | exact HB.out | apply below_alloc | apply pw_below_drewN | apply below_drew1) | exact HB.out))) : w.heap.size ≤ gb252));clear HB;have HB:=n0_;have BK252:=n1_;have GW252:=n2_;have GE252:=n3_;clear n0_ n1_ n2_ n3_;clear hb hbox hg))
 (try simp only [Act.put,sA_,s0_,s1_])
 go_cut [21] (fun v21 wc => ∃ (kq : Nat) (x21_3 : Bool),v21 = .bool x21_3 ∧ Aside0 (impl_IsValidLoading.j0 kq l1 l2 x21_3 l0 = some r) ∧ Aside0 (kq ≤ k) ∧ Aside0 (wc.heap[gb252]? = some (.cells #[(.slice A0 l0.length c0)] 25 (0,0))) ∧ Aside0 (Below w.heap.size w wc))
 case first =>
  have H:=HC4.out
  clear HC4
  replace H:=Option.bind_eq_some_iff.mp H
  obtain ⟨t253,A60,H⟩ := H
  replace H : (if t253 = true then ((impl_IsValidContainers.f k l1).bind fun t254 => (if t254 = true then (impl_IsValidLoading.j0 k l1 l2 ((l2.length : Int) != (l1.length : Int)) l0) else (impl_IsValidLoading.j0 k l1 l2 true l0))) else (impl_IsValidLoading.j0 k l1 l2 true l0)) = some r:=H
  have A6:=Aside0.mk A60
  clear A60
  by_cases c7 : t253 = true
  ·subst c7
   have H1 : ((impl_IsValidContainers.f k l1).bind fun t254 => (if t254 = true then (impl_IsValidLoading.j0 k l1 l2 ((l2.length : Int) != (l1.length : Int)) l0) else (impl_IsValidLoading.j0 k l1 l2 true l0))) = some r:=by rw [if_pos rfl] at H;exact H
   clear H
   have H:=H1
   clear H1
   replace H:=Option.bind_eq_some_iff.mp H
   obtain ⟨t254,A80,H⟩ := H
   replace H : (if t254 = true then (impl_IsValidLoading.j0 k l1 l2 ((l2.length : Int) != (l1.length : Int)) l0) else (impl_IsValidLoading.j0 k l1 l2 true l0)) = some r:=H
   have A8:=Aside0.mk A80
   clear A80
   by_cases c9 : t254 = true
   ·subst c9
    have H1 : (impl_IsValidLoading.j0 k l1 l2 ((l2.length : Int) != (l1.length : Int)) l0) = some r:=by rw [if_pos rfl] at H;exact H
    clear H
    have H:=H1
    clear H1
    have H':=Aside0.mk H
    clear H
    have hcz10_0 : w5.cell? ⟨gb252,0,none⟩ = some (.slice A0 l0.length c0):=(blk_cell BK252.out 0).trans rfl
    have hfz10_0:=blk_frozen BK252.out 0
    go_wp2_with (first | ((with_reducible refine gate_callee (f:=18) rfl ?_);refine goesL_ (some 8) rfl rfl Try.func18 (by kernel_rfl) rfl #[.slice A0 l0.length c0] rfl (by (try simp only [List.map_toArray,List.map_cons,List.map_nil]);first | done | rfl | (simp only [List.length_drop,List.length_take];rfl)) ?_;(with_reducible refine (impl_IsValidTrain.calls k _ _ l0 true _ ?side1 ?side2 A6.out).mono ?_);(case side1 => repeat (first | exact (Kd.C_below HR0.out HB.out) | (with_reducible refine Kd.C_alloc ?_ _) | (with_reducible refine Kd.C_drewN ?_ _) | (with_reducible refine Kd.C_drew ?_)));(case side2 => exact HC0.out);rintro e w11 ⟨rfl,hb⟩;refine ⟨_,rfl, ?_⟩;have n0_:=Aside0.mk (blk_below (g:=gb252) (o := .cells #[.slice A0 l0.length c0] 25 (0,0)) (by (with_reducible repeat (first | refine blk_drewN ?_ _ | refine blk_drew ?_ | refine blk_alloc ?_ _));exact BK252.out) hb);have n1_:=Aside0.mk (below_step (by repeat (first | (with_reducible first | exact HB.out | apply below_alloc | apply pw_below_drewN | apply below_drew1 | refine below_set ?_ GE252.out) | exact HB.out)) hb);clear BK252;clear HB;have BK252:=n0_;have HB:=n1_;clear n0_ n1_;(try clear hb);(try clear hb2);(try clear hk);(try clear hi)) | (go_at_call 69;(with_reducible refine (impl_IsValidContainers.calls k _ _ l1 true _ ?side1 ?side2 A8.out).mono ?_);(case side1 => repeat (first | exact (Kd.C_below HR1.out HB.out) | (with_reducible refine Kd.C_alloc ?_ _) | (with_reducible refine Kd.C_drewN ?_ _) | (with_reducible refine Kd.C_drew ?_)));(case side2 => exact HC1.out);rintro e w12 ⟨rfl,hb⟩;have n0_:=Aside0.mk (blk_below (g:=gb252) (o := .cells #[.slice A0 l0.length c0] 25 (0,0)) (by (with_reducible repeat (first | refine blk_drewN ?_ _ | refine blk_drew ?_ | refine blk_alloc ?_ _));exact BK252.out) hb);have n1_:=Aside0.mk (below_step (by repeat (first | (with_reducible first | exact HB.out | apply below_alloc | apply pw_below_drewN | apply below_drew1 | refine below_set ?_ GE252.out) | exact HB.out)) hb);clear BK252;clear HB;have BK252:=n0_;have HB:=n1_;clear n0_ n1_;(try clear hb);(try clear hb2);(try clear hk);(try clear hi)))
    go_meet
    case rel => exact ⟨_,(((l2.length : Int) != (l1.length : Int))),(by first | rfl | (simp;done) | (simp [*];done)),H',⟨by first | omega | exact Nat.le_refl _⟩,⟨by (with_reducible repeat (first | refine blk_drewN ?_ _ | refine blk_drew ?_ | refine blk_alloc ?_ _));exact BK252.out⟩,⟨by repeat (first | (with_reducible first | exact HB.out | apply below_alloc | apply pw_below_drewN | apply below_drew1 | refine below_set ?_ GE252.out) | exact HB.out)⟩⟩
   ·replace c9:=Bool.eq_false_iff.mpr c9
    subst c9
    have H1 : (impl_IsValidLoading.j0 k l1 l2 true l0) = some r:=by rw [if_neg (show ¬ (false = true) by decide)] at H;exact H
    clear H
    have H:=H1
    clear H1
    have H':=Aside0.mk H
    clear H
    have hcz13_0 : w5.cell? ⟨gb252,0,none⟩ = some (.slice A0 l0.length c0):=(blk_cell BK252.out 0).trans rfl
    have hfz13_0:=blk_frozen BK252.out 0
    go_wp2_with (first | ((with_reducible refine gate_callee (f:=18) rfl ?_);refine goesL_ (some 8) rfl rfl Try.func18 (by kernel_rfl) rfl #[.slice A0 l0.length c0] rfl (by (try simp only [List.map_toArray,List.map_cons,List.map_nil]);first | done | rfl | (simp only [List.length_drop,List.length_take];rfl)) ?_;(with_reducible refine (impl_IsValidTrain.calls k _ _ l0 true _ ?side1 ?side2 A6.out).mono ?_);(case side1 => repeat (first | exact (Kd.C_below HR0.out HB.out) | (with_reducible refine Kd.C_alloc ?_ _) | (with_reducible refine Kd.C_drewN ?_ _) | (with_reducible refine Kd.C_drew ?_)));(case side2 => exact HC0.out);rintro e w14 ⟨rfl,hb⟩;refine ⟨_,rfl, ?_⟩;have n0_:=Aside0.mk (blk_below (g:=gb252) (o := .cells #[.slice A0 l0.length c0] 25 (0,0)) (by (with_reducible repeat (first | refine blk_drewN ?_ _ | refine blk_drew ?_ | refine blk_alloc ?_ _));exact BK252.out) hb);have n1_:=Aside0.mk (below_step (by repeat (first | (with_reducible first | exact HB.out | apply below_alloc | apply pw_below_drewN | apply below_drew1 | refine below_set ?_ GE252.out) | exact HB.out)) hb);clear BK252;clear HB;have BK252:=n0_;have HB:=n1_;clear n0_ n1_;(try clear hb);(try clear hb2);(try clear hk);(try clear hi)) | (go_at_call 69;(with_reducible refine (impl_IsValidContainers.calls k _ _ l1 false _ ?side1 ?side2 A8.out).mono ?_);(case side1 => repeat (first | exact (Kd.C_below HR1.out HB.out) | (with_reducible refine Kd.C_alloc ?_ _) | (with_reducible refine Kd.C_drewN ?_ _) | (with_reducible refine Kd.C_drew ?_)));(case side2 => exact HC1.out);rintro e w15 ⟨rfl,hb⟩;have n0_:=Aside0.mk (blk_below (g:=gb252) (o := .cells #[.slice A0 l0.length c0] 25 (0,0)) (by (with_reducible repeat (first | refine blk_drewN ?_ _ | refine blk_drew ?_ | refine blk_alloc ?_ _));exact BK252.out) hb);have n1_:=Aside0.mk (below_step (by repeat (first | (with_reducible first | exact HB.out | apply below_alloc | apply pw_below_drewN | apply below_drew1 | refine below_set ?_ GE252.out) | exact HB.out)) hb);clear BK252;clear HB;have BK252:=n0_;have HB:=n1_;clear n0_ n1_;(try clear hb);(try clear hb2);(try clear hk);(try clear hi)))
    go_meet
    case rel => exact ⟨_,(true),(by first | rfl | (simp;done) | (simp [*];done)),H',⟨by first | omega | exact Nat.le_refl _⟩,⟨by (with_reducible repeat (first | refine blk_drewN ?_ _ | refine blk_drew ?_ | refine blk_alloc ?_ _));exact BK252.out⟩,⟨by repeat (first | (with_reducible first | exact HB.out | apply below_alloc | apply pw_below_drewN | apply below_drew1 | refine below_set ?_ GE252.out) | exact HB.out)⟩⟩
  ·replace c7:=Bool.eq_false_iff.mpr c7
   subst c7
   have H1 : (impl_IsValidLoading.j0 k l1 l2 true l0) = some r:=by rw [if_neg (show ¬ (false = true) by decide)] at H;exact H
   clear H
   have H:=H1
   clear H1
   have H':=Aside0.mk H
   clear H
   have hcz16_0 : w5.cell? ⟨gb252,0,none⟩ = some (.slice A0 l0.length c0):=(blk_cell BK252.out 0).trans rfl
   have hfz16_0:=blk_frozen BK252.out 0
   go_wp2_with (first | ((with_reducible refine gate_callee (f:=18) rfl ?_);refine goesL_ (some 8) rfl rfl Try.func18 (by kernel_rfl) rfl #[.slice A0 l0.length c0] rfl (by (try simp only [List.map_toArray,List.map_cons,List.map_nil]);first | done | rfl | (simp only [List.length_drop,List.length_take];rfl)) ?_;(with_reducible refine (impl_IsValidTrain.calls k _ _ l0 false _ ?side1 ?side2 A6.out).mono ?_);(case side1 => repeat (first | exact (Kd.C_below HR0.out HB.out) | (with_reducible refine Kd.C_alloc ?_ _) | (with_reducible refine Kd.C_drewN ?_ _) | (with_reducible refine Kd.C_drew ?_)));(case side2 => exact HC0.out);rintro e w17 ⟨rfl,hb⟩;refine ⟨_,rfl, ?_⟩;have n0_:=Aside0.mk (blk_below (g:=gb252) (o := .cells #[.slice A0 l0.length c0] 25 (0,0)) (by (with_reducible repeat (first | refine blk_drewN ?_ _ | refine blk_drew ?_ | refine blk_alloc ?_ _));exact BK252.out) hb);have n1_:=Aside0.mk (below_step (by repeat (first | (with_reducible first | exact HB.out | apply below_alloc | apply pw_below_drewN | apply below_drew1 | refine below_set ?_ GE252.out) | exact HB.out)) hb);clear BK252;clear HB;have BK252:=n0_;have HB:=n1_;clear n0_ n1_;(try clear hb);(try clear hb2);(try clear hk);(try clear hi)))
   go_meet
   case rel => exact ⟨_,(true),(by first | rfl | (simp;done) | (simp [*];done)),H',⟨by first | omega | exact Nat.le_refl _⟩,⟨by (with_reducible repeat (first | refine blk_drewN ?_ _ | refine blk_drew ?_ | refine blk_alloc ?_ _));exact BK252.out⟩,⟨by repeat (first | (with_reducible first | exact HB.out | apply below_alloc | apply pw_below_drewN | apply below_drew1 | refine below_set ?_ GE252.out) | exact HB.out)⟩⟩
 case rest =>
  clear HC4
  try clear c1
  try clear c2
  try clear p2
  try clear c7
  try clear c9
  try clear hcz10_0
  try clear hcz13_0
  try clear hcz16_0
  try clear hfz10_0
  try clear hfz13_0
  try clear hfz16_0
  obtain ⟨kq,x21_3,rfl,HA,HJ3,BK252,HB⟩ := hcut
  cases kq with
  | zero => exact absurd HA.out (by simp [impl_IsValidLoading.j0])
  | succ kj3 =>
   have H:=HA.out
   clear HA
   simp only [impl_IsValidLoading.j0] at H
   by_cases c18 : x21_3 = true
   ·subst c18
    have H1 : (some false) = some r:=by rw [if_pos rfl] at H;exact H
    clear H
    have H:=H1
    clear H1
    obtain rfl:=Option.some.inj H
    go_wp2
    go_ret
    exact ⟨by first | rfl | (simp [errW_none,errW_some] <;> rfl) | (simp [*,errW_none,errW_some] <;> rfl),by repeat (first | (with_reducible first | exact HB.out | apply below_alloc | apply pw_below_drewN | apply below_drew1 | refine below_set ?_ GE252.out) | exact HB.out)⟩
   ·replace c18:=Bool.eq_false_iff.mpr c18
    subst c18
    have H1 : ((slices_ContainsFunc_int.f kj3 l2 l0).bind fun t255 => (if t255 = true then (some false) else ((impl_isLoaded.f kj3 l0 l1 l2).bind fun t256 => (some t256)))) = some r:=by rw [if_neg (show ¬ (false = true) by decide)] at H;exact H
    clear H
    have H:=H1
    clear H1
    replace H:=Option.bind_eq_some_iff.mp H
    obtain ⟨t255,A190,H⟩ := H
    replace H : (if t255 = true then (some false) else ((impl_isLoaded.f kj3 l0 l1 l2).bind fun t256 => (some t256))) = some r:=H
    have A19:=Aside0.mk A190
    clear A190
    by_cases c20 : t255 = true
    ·subst c20
     have H1 : (some false) = some r:=by rw [if_pos rfl] at H;exact H
     clear H
     have H:=H1
     clear H1
     obtain rfl:=Option.some.inj H
     go_wp2_with (first | ((with_reducible refine gate_callee (f:=70) rfl ?_);refine goesL_ (some 24) rfl rfl Try.func70 (by kernel_rfl) rfl #[.slice A2 l2.length c2,(.func (.func 71) #[] #[.pointer (some ⟨gb252,0,none⟩)])] rfl (by (try simp only [List.map_toArray,List.map_cons,List.map_nil]);first | done | rfl | (simp only [List.length_drop,List.length_take];rfl)) ?_;(with_reducible refine (slices_ContainsFunc_int.calls (hg1_0:=?sg0) kj3 _ _ l2 A0 c0 l0 true _ ?side1 ?side2 ?side3 ?side4 A19.out).mono ?_);(case sg0 => exact (blk_cell (by (with_reducible repeat (first | refine blk_drewN ?_ _ | refine blk_drew ?_ | refine blk_alloc ?_ _));exact BK252.out) 0).trans rfl);(case side1 => repeat (first | exact (Kd.C_below HR2.out HB.out) | (with_reducible refine Kd.C_alloc ?_ _) | (with_reducible refine Kd.C_drewN ?_ _) | (with_reducible refine Kd.C_drew ?_)));(case side2 => exact HC2.out);(case side3 => repeat (first | exact (Kd.C_below HR0.out HB.out) | (with_reducible refine Kd.C_alloc ?_ _) | (with_reducible refine Kd.C_drewN ?_ _) | (with_reducible refine Kd.C_drew ?_)));(case side4 => exact HC0.out);rintro e w21 ⟨rfl,hb⟩;refine ⟨_,rfl, ?_⟩;have n0_:=Aside0.mk (blk_below (g:=gb252) (o := .cells #[.slice A0 l0.length c0] 25 (0,0)) (by (with_reducible repeat (first | refine blk_drewN ?_ _ | refine blk_drew ?_ | refine blk_alloc ?_ _));exact BK252.out) hb);have n1_:=Aside0.mk (below_step (by repeat (first | (with_reducible first | exact HB.out | apply below_alloc | apply pw_below_drewN | apply below_drew1 | refine below_set ?_ GE252.out) | exact HB.out)) hb);clear BK252;clear HB;have BK252:=n0_;have HB:=n1_;clear n0_ n1_;(try clear hb);(try clear hb2);(try clear hk);(try clear hi)))
     go_ret
     exact ⟨by first | rfl | (simp [errW_none,errW_some] <;> rfl) | (simp [*,errW_none,errW_some] <;> rfl),by repeat (first | (with_reducible first | exact HB.out | apply below_alloc | apply pw_below_drewN | apply below_drew1 | refine below_set ?_ GE252.out) | exact HB.out)⟩
    ·replace c20:=Bool.eq_false_iff.mpr c20
     subst c20
     have H1 : ((impl_isLoaded.f kj3 l0 l1 l2).bind fun t256 => (some t256)) = some r:=by rw [if_neg (show ¬ (false = true) by decide)] at H;exact H
     clear H
     have H:=H1
     clear H1
     replace H:=Option.bind_eq_some_iff.mp H
     obtain ⟨t256,A220,H⟩ := H
     replace H : (some t256) = some r:=H
     have A22:=Aside0.mk A220
     clear A220
     obtain rfl:=Option.some.inj H
     go_wp2_with (first | ((with_reducible refine gate_callee (f:=70) rfl ?_);refine goesL_ (some 24) rfl rfl Try.func70 (by kernel_rfl) rfl #[.slice A2 l2.length c2,(.func (.func 71) #[] #[.pointer (some ⟨gb252,0,none⟩)])] rfl (by (try simp only [List.map_toArray,List.map_cons,List.map_nil]);first | done | rfl | (simp only [List.length_drop,List.length_take];rfl)) ?_;(with_reducible refine (slices_ContainsFunc_int.calls (hg1_0:=?sg0) kj3 _ _ l2 A0 c0 l0 false _ ?side1 ?side2 ?side3 ?side4 A19.out).mono ?_);(case sg0 => exact (blk_cell (by (with_reducible repeat (first | refine blk_drewN ?_ _ | refine blk_drew ?_ | refine blk_alloc ?_ _));exact BK252.out) 0).trans rfl);(case side1 => repeat (first | exact (Kd.C_below HR2.out HB.out) | (with_reducible refine Kd.C_alloc ?_ _) | (with_reducible refine Kd.C_drewN ?_ _) | (with_reducible refine Kd.C_drew ?_)));(case side2 => exact HC2.out);(case side3 => repeat (first | exact (Kd.C_below HR0.out HB.out) | (with_reducible refine Kd.C_alloc ?_ _) | (with_reducible refine Kd.C_drewN ?_ _) | (with_reducible refine Kd.C_drew ?_)));(case side4 => exact HC0.out);rintro e w23 ⟨rfl,hb⟩;refine ⟨_,rfl, ?_⟩;have n0_:=Aside0.mk (blk_below (g:=gb252) (o := .cells #[.slice A0 l0.length c0] 25 (0,0)) (by (with_reducible repeat (first | refine blk_drewN ?_ _ | refine blk_drew ?_ | refine blk_alloc ?_ _));exact BK252.out) hb);have n1_:=Aside0.mk (below_step (by repeat (first | (with_reducible first | exact HB.out | apply below_alloc | apply pw_below_drewN | apply below_drew1 | refine below_set ?_ GE252.out) | exact HB.out)) hb);clear BK252;clear HB;have BK252:=n0_;have HB:=n1_;clear n0_ n1_;(try clear hb);(try clear hb2);(try clear hk);(try clear hi);have hcz24_0 : w23.cell? ⟨gb252,0,none⟩ = some (.slice A0 l0.length c0):=(blk_cell BK252.out 0).trans rfl;have hfz24_0:=blk_frozen BK252.out 0) | ((with_reducible refine gate_callee (f:=72) rfl ?_);refine goesL_ (some 28) rfl rfl Try.func72 (by kernel_rfl) rfl #[.slice A0 l0.length c0, .slice A1 l1.length c1, .slice A2 l2.length c2] rfl (by (try simp only [List.map_toArray,List.map_cons,List.map_nil]);first | done | rfl | (simp only [List.length_drop,List.length_take];rfl)) ?_;(with_reducible refine (impl_isLoaded.calls kj3 _ _ l0 _ _ l1 _ _ l2 t256 _ ?side1 ?side2 ?side3 ?side4 ?side5 ?side6 A22.out).mono ?_);(case side1 => repeat (first | exact (Kd.C_below HR0.out HB.out) | (with_reducible refine Kd.C_alloc ?_ _) | (with_reducible refine Kd.C_drewN ?_ _) | (with_reducible refine Kd.C_drew ?_)));(case side2 => exact HC0.out);(case side3 => repeat (first | exact (Kd.C_below HR1.out HB.out) | (with_reducible refine Kd.C_alloc ?_ _) | (with_reducible refine Kd.C_drewN ?_ _) | (with_reducible refine Kd.C_drew ?_)));(case side4 => exact HC1.out);(case side5 => repeat (first | exact (Kd.C_below HR2.out HB.out) | (with_reducible refine Kd.C_alloc ?_ _) | (with_reducible refine Kd.C_drewN ?_ _) | (with_reducible refine Kd.C_drew ?_)));(case side6 => exact HC2.out);rintro e w25 ⟨rfl,hb⟩;refine ⟨_,rfl, ?_⟩;have n0_:=Aside0.mk (blk_below (g:=gb252) (o := .cells #[.slice A0 l0.length c0] 25 (0,0)) (by (with_reducible repeat (first | refine blk_drewN ?_ _ | refine blk_drew ?_ | refine blk_alloc ?_ _));exact BK252.out) hb);have n1_:=Aside0.mk (below_step (by repeat (first | (with_reducible first | exact HB.out | apply below_alloc | apply pw_below_drewN | apply below_drew1 | refine below_set ?_ GE252.out) | exact HB.out)) hb);clear BK252;clear HB;have BK252:=n0_;have HB:=n1_;clear n0_ n1_;(try clear hb);(try clear hb2);(try clear hk);(try clear hi)))
     go_ret
     exact ⟨by first | rfl | (simp [errW_none,errW_some] <;> rfl) | (simp [*,errW_none,errW_some] <;> rfl),by repeat (first | (with_reducible first | exact HB.out | apply below_alloc | apply pw_below_drewN | apply below_drew1 | refine below_set ?_ GE252.out) | exact HB.out)⟩

/-! ### slices_Index_int: function 108 -/
def slices_Index_int.l0 : Nat → List Int → Int → Int → Int → Option (Int)
 | 0,_,_,_,_ => none
 | k + 1,x0,x1,x7,x8 => if x8 < x7 then (if 0 ≤ x8 then (if x8 < (x0.length : Int) then (if x1 = (rd x0 x8) then (some x8) else (slices_Index_int.l0 k x0 x1 x7 (wrap64 (x8 + 1)))) else (none)) else (none)) else (some (-1))
def slices_Index_int.f (k : Nat) (l0 : List Int) (a1 : Int) : Option (Int):=slices_Index_int.l0 k l0 a1 (l0.length : Int) 0
theorem slices_Index_int.mono_l : ∀ k,(∀ y0 y1 y2 y3,LeO (slices_Index_int.l0 k y0 y1 y2 y3) (slices_Index_int.l0 (k + 1) y0 y1 y2 y3))
 | 0 => fun _ _ _ _ r h => by simp [slices_Index_int.l0] at h
 | k + 1 => by
  have ih0:=slices_Index_int.mono_l k
  ·intro y0 y1 y2 y3
   unfold slices_Index_int.l0
   repeat' first
   | (with_reducible exact ih0 _ _ _ _)
   | (with_reducible exact LeO.refl _)
   | (with_reducible exact LeO.none _)
   | (with_reducible refine LeO.ite ?_ ?_)
   | (with_reducible refine LeO.bind ?_ (fun _ => ?_))
   | exact ih0 _ _ _ _
   | exact LeO.none _
   | refine LeO.ite ?_ ?_
   | refine LeO.bind ?_ (fun _ => ?_)
theorem slices_Index_int.mono : ∀ a0 a1 k,LeO (slices_Index_int.f k a0 a1) (slices_Index_int.f (k + 1) a0 a1):=by
 intro a0 a1 k
 have ih0:=slices_Index_int.mono_l k
 unfold slices_Index_int.f
 repeat' first
   | (with_reducible exact ih0 _ _ _ _)
   | (with_reducible exact LeO.refl _)
   | (with_reducible exact LeO.none _)
   | (with_reducible refine LeO.ite ?_ ?_)
   | (with_reducible refine LeO.bind ?_ (fun _ => ?_))
   | exact ih0 _ _ _ _
   | exact LeO.none _
   | refine LeO.ite ?_ ?_
   | refine LeO.bind ?_ (fun _ => ?_)
set_option maxHeartbeats 8000000 in
set_option maxRecDepth 100000 in
theorem slices_Index_int.calls (k : Nat) (A0 : Option Addr) (c0 : Nat) (l0 : List Int) (a1 : Int) (r : Int) (w : World) (hr0 : Kd.C (Kd.int .i64) w A0 l0.length l0) (hc0 : l0.length ≤ c0) (h : slices_Index_int.f k l0 a1 = some r) :
  Calls Try.prog 108 #[.slice A0 l0.length c0, .int .i64 a1] w fun e w' => e = .returned (.int .i64 r) ∧ Drawn0 w w':=by
 have HR0:=Aside0.mk hr0
 have HC0:=Aside0.mk hc0
 clear hr0 hc0
 have H : (slices_Index_int.l0 k l0 a1 (l0.length : Int) 0) = some r:=h
 clear h
 have H':=Aside0.mk H
 clear H
 go_enter Try.func108,Try.ntmps108
 go_wp2
 go_loopg [8] k (fun kq v8 w' => ∃ (x8_1 : Int),v8 = .int .i64 x8_1 ∧ Aside0 (slices_Index_int.l0 kq l0 a1 (l0.length : Int) x8_1 = some r) ∧ Aside0 (kq ≤ k) ∧ Drawn0 w w')
 case atStart => exact ⟨(0),(by first | rfl | (simp;done) | (simp [*];done)),H',⟨Nat.le_refl _⟩,by repeat (first | exact Drawn0.refl _ | apply Drawn0.step)⟩
 case round =>
  clear H'
  try clear c1
  try clear p2
  obtain ⟨x8_1,rfl,HA,HK1,⟨m1,rfl⟩⟩ := hrel
  cases gk with
  | zero => exact absurd HA.out (by simp [slices_Index_int.l0])
  | succ k1 =>
   have H:=HA.out
   clear HA
   simp only [slices_Index_int.l0] at H
   by_cases c3 : x8_1 < (l0.length : Int)
   ·rw [if_pos c3] at H
    have c3b0 : decide (x8_1 < (l0.length : Int)) = true:=decide_eq_true c3
    clear c3
    by_cases c4 : 0 ≤ x8_1
    ·rw [if_pos c4] at H
     have c4b0 : decide (0 ≤ x8_1) = true:=decide_eq_true c4
     clear c4
     by_cases c5 : x8_1 < (l0.length : Int)
     ·rw [if_pos c5] at H
      have c5b0 : decide (x8_1 < (l0.length : Int)) = true:=decide_eq_true c5
      clear c5
      by_cases c6 : a1 = (rd l0 x8_1)
      ·rw [if_pos c6] at H
       have c6b0 : (a1 == (rd l0 x8_1)) = true:=beq_iff_eq.mpr c6
       have c6b1 : (a1 != (rd l0 x8_1)) = false:=bne_eq_false_iff_eq.mpr c6
       clear c6
       obtain rfl:=Option.some.inj H
       have p257 : 0 ≤ (x8_1 : Int):=of_decide_eq_true (by first | (with_reducible assumption) | assumption)
       have q257 : x8_1 < (l0.length : Int):=of_decide_eq_true (by first | (with_reducible assumption) | assumption)
       obtain ⟨ad257,e257,hx257_0⟩ := Kd.at_int HR0.out x8_1 p257 q257
       cases e257
       replace p257:=eq_true p257
       replace q257:=eq_true q257
       go_wp2
       go_ret
       exact ⟨by first | rfl | (simp;done) | (simp [*];done),by repeat (first | exact Drawn0.refl _ | apply Drawn0.step)⟩
      ·rw [if_neg c6] at H
       have c6b0 : (a1 == (rd l0 x8_1)) = false:=beq_eq_false_iff_ne.mpr c6
       have c6b1 : (a1 != (rd l0 x8_1)) = true:=bne_iff_ne.mpr c6
       have H':=Aside0.mk H
       clear H
       have p257 : 0 ≤ (x8_1 : Int):=of_decide_eq_true (by first | (with_reducible assumption) | assumption)
       have q257 : x8_1 < (l0.length : Int):=of_decide_eq_true (by first | (with_reducible assumption) | assumption)
       obtain ⟨ad257,e257,hx257_0⟩ := Kd.at_int HR0.out x8_1 p257 q257
       cases e257
       replace p257:=eq_true p257
       replace q257:=eq_true q257
       go_wp2
       go_roundg k1
       case measure => have:=HK1.out;omega
       case rel => exact ⟨(wrap64 (x8_1 + 1)),(by first | rfl | (simp;done) | (simp [*];done)),H',⟨by have:=HK1.out;omega⟩,by repeat (first | exact Drawn0.refl _ | apply Drawn0.step)⟩
     ·rw [if_neg c5] at H
      exact absurd H (by simp)
    ·rw [if_neg c4] at H
     exact absurd H (by simp)
   ·rw [if_neg c3] at H
    have c3b0 : decide (x8_1 < (l0.length : Int)) = false:=decide_eq_false c3
    clear c3
    obtain rfl:=Option.some.inj H
    go_wp2
    go_ret
    exact ⟨by first | rfl | (simp;done) | (simp [*];done),by repeat (first | exact Drawn0.refl _ | apply Drawn0.step)⟩

/-! ### slices_Contains_int: function 91 -/
def slices_Contains_int.f (k : Nat) (l0 : List Int) (a1 : Int) : Option (Bool):=(slices_Index_int.f k l0 a1).bind fun t258 => (some (decide (t258 ≥ 0)))
theorem slices_Contains_int.mono : ∀ a0 a1 k,LeO (slices_Contains_int.f k a0 a1) (slices_Contains_int.f (k + 1) a0 a1):=by
 intro a0 a1 k
 unfold slices_Contains_int.f
 repeat' first
   | (with_reducible exact slices_Index_int.mono _ _ _)
   | (with_reducible exact LeO.refl _)
   | (with_reducible exact LeO.none _)
   | (with_reducible refine LeO.ite ?_ ?_)
   | (with_reducible refine LeO.bind ?_ (fun _ => ?_))
   | exact slices_Index_int.mono _ _ _
   | exact LeO.none _
   | refine LeO.ite ?_ ?_
   | refine LeO.bind ?_ (fun _ => ?_)
set_option maxHeartbeats 8000000 in
set_option maxRecDepth 100000 in
theorem slices_Contains_int.calls (k : Nat) (A0 : Option Addr) (c0 : Nat) (l0 : List Int) (a1 : Int) (r : Bool) (w : World) (hr0 : Kd.C (Kd.int .i64) w A0 l0.length l0) (hc0 : l0.length ≤ c0) (h : slices_Contains_int.f k l0 a1 = some r) :
  Calls Try.prog 91 #[.slice A0 l0.length c0, .int .i64 a1] w fun e w' => e = .returned (.bool r) ∧ Drawn0 w w':=by
 have HR0:=Aside0.mk hr0
 have HC0:=Aside0.mk hc0
 clear hr0 hc0
 have H : ((slices_Index_int.f k l0 a1).bind fun t258 => (some (decide (t258 ≥ 0)))) = some r:=h
 clear h
 replace H:=Option.bind_eq_some_iff.mp H
 obtain ⟨t258,A30,H⟩ := H
 replace H : (some (decide (t258 ≥ 0))) = some r:=H
 have A3:=Aside0.mk A30
 clear A30
 obtain rfl:=Option.some.inj H
 go_enter Try.func91,Try.ntmps91
 go_wp2_with (first | ((with_reducible refine gate_callee (f:=108) rfl ?_);refine goesL_ (some 7) rfl rfl Try.func108 (by kernel_rfl) rfl #[.slice A0 l0.length c0, .int .i64 a1] rfl (by (try simp only [List.map_toArray,List.map_cons,List.map_nil]);first | done | rfl | (simp only [List.length_drop,List.length_take];rfl)) ?_;(with_reducible refine (slices_Index_int.calls k _ _ l0 a1 t258 _ ?side1 ?side2 A3.out).mono ?_);(case side1 => repeat (first | exact HR0.out | (with_reducible refine Kd.C_alloc ?_ _) | (with_reducible refine Kd.C_drewN ?_ _) | (with_reducible refine Kd.C_drew ?_)));(case side2 => exact HC0.out);rintro e w' ⟨rfl,⟨nd,rfl⟩⟩;refine ⟨_,rfl, ?_⟩))
 go_ret
 exact ⟨by first | rfl | (simp;done) | (simp [*];done),by repeat (first | exact Drawn0.refl _ | apply Drawn0.step)⟩

/-! ### impl_EmptyWagons_1: function 90 -/
def impl_EmptyWagons_1.f (k : Nat) (a0 : Int) (l1 : List Int) : Option (Bool):=(slices_Contains_int.f k l1 a0).bind fun t259 => (some t259)
theorem impl_EmptyWagons_1.mono : ∀ a0 a1 k,LeO (impl_EmptyWagons_1.f k a0 a1) (impl_EmptyWagons_1.f (k + 1) a0 a1):=by
 intro a0 a1 k
 unfold impl_EmptyWagons_1.f
 repeat' first
   | (with_reducible exact slices_Contains_int.mono _ _ _)
   | (with_reducible exact LeO.refl _)
   | (with_reducible exact LeO.none _)
   | (with_reducible refine LeO.ite ?_ ?_)
   | (with_reducible refine LeO.bind ?_ (fun _ => ?_))
   | exact slices_Contains_int.mono _ _ _
   | exact LeO.none _
   | refine LeO.ite ?_ ?_
   | refine LeO.bind ?_ (fun _ => ?_)
set_option maxHeartbeats 8000000 in
set_option maxRecDepth 100000 in
theorem impl_EmptyWagons_1.calls (k : Nat) (a0 : Int) (A1 : Option Addr) (c1 : Nat) (l1 : List Int) {G1 : Nat} (r : Bool) (w : World) (hr1 : Kd.C (Kd.int .i64) w A1 l1.length l1) (hc1 : l1.length ≤ c1) (hg1 : w.cell? ⟨G1,0,none⟩ = some (.slice A1 l1.length c1)) (h : impl_EmptyWagons_1.f k a0 l1 = some r) :
  Calls Try.prog 90 #[.int .i64 a0, .pointer (some ⟨G1,0,none⟩)] w fun e w' => e = .returned (.bool r) ∧ Below w.heap.size w w':=by
 have HR1:=Aside0.mk hr1
 have HC1:=Aside0.mk hc1
 clear hr1 hc1
 have HB:=Aside0.mk (Below.refl w.heap.size w)
 have H : ((slices_Contains_int.f k l1 a0).bind fun t259 => (some t259)) = some r:=h
 clear h
 replace H:=Option.bind_eq_some_iff.mp H
 obtain ⟨t259,A30,H⟩ := H
 replace H : (some t259) = some r:=H
 have A3:=Aside0.mk A30
 clear A30
 obtain rfl:=Option.some.inj H
 go_enter Try.func90,Try.ntmps90
 go_wp2_with (first | ((with_reducible refine gate_callee (f:=91) rfl ?_);refine goesL_ (some 6) rfl rfl Try.func91 (by kernel_rfl) rfl #[.slice A1 l1.length c1, .int .i64 a0] rfl (by (try simp only [List.map_toArray,List.map_cons,List.map_nil]);first | done | rfl | (simp only [List.length_drop,List.length_take];rfl)) ?_;(with_reducible refine (slices_Contains_int.calls k _ _ l1 a0 t259 _ ?side1 ?side2 A3.out).mono ?_);(case side1 => repeat (first | exact HR1.out | (with_reducible refine Kd.C_alloc ?_ _) | (with_reducible refine Kd.C_drewN ?_ _) | (with_reducible refine Kd.C_drew ?_)));(case side2 => exact HC1.out);rintro e w' ⟨rfl,⟨nd,rfl⟩⟩;refine ⟨_,rfl, ?_⟩))
 go_ret
 exact ⟨by first | rfl | (simp [errW_none,errW_some] <;> rfl) | (simp [*,errW_none,errW_some] <;> rfl),by repeat (first | (with_reducible first | exact HB.out | apply below_alloc | apply pw_below_drewN | apply below_drew1) | exact HB.out)⟩

/-! ### slices_DeleteFunc_int: function 88 -/
open Go.Proofs.YthfbnadlpninaaaW.Help
theorem DF_has (l : List Int) (hl : l.length ≤ 9223372036854775807) (a : Int) : Ev (fun k => slices_Contains_int.f k l a) (decide (a ∈ l)):=by
 unfold slices_Contains_int.f slices_Index_int.f
 have main : ∀ d i : Nat,i + d = l.length → ∃ t : Int,Ev (fun k => slices_Index_int.l0 k l a l.length i) t ∧ (decide (t ≥ 0) = decide (a ∈ l.drop i)):=by
  intro d
  induction d with
  | zero =>
   intro i hi
   exact ⟨-1,Ev.step (fun k => slices_Index_int.l0.eq_2 ..) (Ev.neg (by omega) (Ev.now _)),by simp [List.drop_of_length_le (show l.length ≤ i by omega)]⟩
  | succ d ih =>
   intro i hi
   have w1 : wrap64 ((i : Int) + 1) = ((i + 1 : Nat) : Int):=by rw [w64 (by omega) (by omega)];rfl
   have e : rd l (i : Int) = l[i]'(by omega):=by
    unfold rd
    rw [Int.toNat_natCast]
    exact getD_of (List.getElem?_eq_getElem (by omega))
   rw [List.drop_eq_getElem_cons (by omega)]
   by_cases c : a = l[i]'(by omega)
   ·refine ⟨i,Ev.step (fun k => slices_Index_int.l0.eq_2 ..) (Ev.pos (by omega) (Ev.pos (by omega) (Ev.pos (by omega) ?_))),by rw [decide_eq_true (show (i : Int) ≥ 0 by omega),decide_eq_true (List.mem_cons.2 (Or.inl c))]⟩
    rw [e]
    exact Ev.pos c (Ev.now _)
   ·obtain ⟨t,t1,t2⟩ := ih (i + 1) (by omega)
    refine ⟨t,Ev.step (fun k => slices_Index_int.l0.eq_2 ..) (Ev.pos (by omega) (Ev.pos (by omega) (Ev.pos (by omega) ?_))),by rw [t2];exact decide_eq_decide.2 ⟨fun h => List.mem_cons_of_mem _ h,fun h => (List.mem_cons.1 h).resolve_left c⟩⟩
    rw [e,w1]
    exact Ev.neg c t1
 obtain ⟨t,t1,t2⟩ := main l.length 0 (by omega)
 refine Ev.bind t1 (Ev.eq (Ev.now _) ?_)
 rw [t2]
 rfl
set_option maxHeartbeats 8000000 in
set_option maxRecDepth 100000 in
open Go.Shelf Go.Lib Go.Sort in
theorem DF_gives {A1 : Option Addr} {c1 : Nat} {l1 : List Int} {G : Nat} (x : Int) (W : World) (hr1 : Kd.C (Kd.int .i64) W A1 l1.length l1) (hc1 : l1.length ≤ c1) (hg1 : W.cell? ⟨G,0,none⟩ = some (.slice A1 l1.length c1)) :
  FnGives Try.prog 90 #[.pointer (some ⟨G,0,none⟩)] #[.int .i64 x] (.bool (decide (x ∈ l1))) W:=by
 show Calls Try.prog 90 #[.int .i64 x, .pointer (some ⟨G,0,none⟩)] W _
 obtain ⟨k,hk⟩ := Ev.rounds (DF_has l1 (Kd.C_max hr1) x)
 have HR:=Aside0.mk hr1
 have HC:=Aside0.mk hc1
 have HK:=Aside0.mk hk
 clear hr1 hc1 hk
 go_enter Try.func90,Try.ntmps90
 go_wp2_with (first | ((with_reducible refine gate_callee (f:=91) rfl ?_);refine goesL_ (some 6) rfl rfl Try.func91 (by kernel_rfl) rfl #[.slice A1 l1.length c1, .int .i64 x] rfl (by (try simp only [List.map_toArray,List.map_cons,List.map_nil]);first | done | rfl) ?_;(with_reducible refine (slices_Contains_int.calls k _ _ l1 x (decide (x ∈ l1)) _ ?side1 ?side2 HK.out).mono ?_);(case side1 => repeat (first | exact HR.out | (with_reducible refine Kd.C_alloc ?_ _) | (with_reducible refine Kd.C_drewN ?_ _) | (with_reducible refine Kd.C_drew ?_)));(case side2 => exact HC.out);rintro e w' ⟨rfl,⟨nd,rfl⟩⟩;refine ⟨_,rfl, ?_⟩))
 go_ret
 exact ⟨rfl,_,rfl⟩
open Go.Shelf Go.Lib Go.Sort in
theorem DF_below {w0 w : World} {g n : Nat} {dk : Array Int} {os : Array Obj} (hb0 : Below w0.heap.size w0 w) (hg : w0.heap.size ≤ g) : Below w0.heap.size w0 (grow (putRow (Value.int .i64) (Sort.ahead w n) g 0 dk) os) :=
 hb0.trans ⟨rfl,rfl,rfl,by show w.heap.size ≤ (_ ++ os).size;rw [Array.size_append,size_putRow];show w.heap.size ≤ w.heap.size + _;omega,fun k hk => by
  have hk' : k < w.heap.size:=Nat.lt_of_lt_of_le hk hb0.size
  rw [Sort.heap_grow_old _ os (by rw [size_putRow];exact hk')]
  show ((putRow (Value.int .i64) (Sort.ahead w n) g 0 dk).heap)[k]? = w.heap[k]?
  simp only [putRow,mapBlock,Array.getElem?_modify]
  rw [if_neg (by omega)]
  rfl⟩
set_option maxHeartbeats 8000000 in
set_option maxRecDepth 100000 in
def slices_DeleteFunc_int.f (l0 : List Int) (l1 : List Int) : Option (List Int):=if 0 < l0.length then some (l0.filter fun x => !decide (x ∈ l1)) else none
set_option maxHeartbeats 8000000 in
set_option maxRecDepth 100000 in
open Go.Shelf Go.Lib Go.Sort in
theorem slices_DeleteFunc_int.made {A1 : Option Addr} {c1 : Nat} {l1 : List Int} {G : Nat} {A0 : Option Addr} {c0 : Nat} {l0 : List Int} {ok : Nat → Prop} {r : List Int} {w0 w : World} (hO : Kd.R (Kd.int .i64) 3 w w0.heap.size ok (.slice A0 l0.length c0) l0)
  (hr1 : Kd.C (Kd.int .i64) w0 A1 l1.length l1) (hc1 : l1.length ≤ c1) (hbox : w.heap[G]? = some (.cells #[.slice A1 l1.length c1] 30 (0,0))) (hb0 : Below w0.heap.size w0 w) (h : slices_DeleteFunc_int.f l0 l1 = some r) :
  Calls Try.prog 88 #[.slice A0 l0.length c0, .func (.func 90) #[] #[.pointer (some ⟨G,0,none⟩)]] w fun e w' => ∃ v1 : Value,e = .returned v1 ∧ Kd.R (Kd.int .i64) 3 w' w0.heap.size (fun _ => True) v1 r ∧ Below w0.heap.size w0 w':=by
 unfold slices_DeleteFunc_int.f at h
 by_cases hl : 0 < l0.length
 ·rw [if_pos hl] at h
  obtain rfl:=Option.some.inj h
  have ho:=Kd.own_of_R hO
  obtain ⟨hlen,hnil | ⟨g,cap,cur,hv,hbase,hg,hn,hcap,hsz,htk⟩⟩ := ho
  ·omega
  ·injection hv with hv1 _ hv3
   subst hv1
   subst hv3
   have hglt:=blk_lt hg
   have hGlt:=blk_lt hbox
   have hne : G ≠ g:=by
    rintro rfl
    rw [hg] at hbox
    cases hbox
   have hcell : w.cell? ⟨G,0,none⟩ = some (.slice A1 l1.length c1):=(blk_cell hbox 0).trans rfl
   have hH : Holds (Value.int .i64) w g 0 l0.toArray:=fun j hj => by
    have hj' : j < l0.length:=hj
    have:=Kd.R_cell (0 : Int) hO (j : Int) (by omega) (by omega)
    rw [Int.toNat_natCast] at this
    rw [Nat.zero_add]
    refine ⟨this.1.trans ?_,this.2⟩
    unfold rdOf
    rw [Int.toNat_natCast,getElem!_pos l0.toArray j hj,List.getElem_toArray,List.getD_eq_getElem?_getD,List.getElem?_eq_getElem hj']
    rfl
   have eg : ∀ args w,(callFunc 90 args).run Try.prog w = .ok (.enter 90 args) w:=enters_of Try.func90 (by kernel_rfl) rfl
   have pa : PredAt Try.prog 90 #[.pointer (some ⟨G,0,none⟩)] (Value.int .i64) (fun x => decide (x ∈ l1)) w:=fun W x hb =>
    DF_gives x W (Kd.C_below hr1 (hb0.trans (hb.mono hb0.size))) hc1 ((hb.cell (p:=⟨G,0,none⟩) hGlt).trans hcell)
   have po : PredOver Try.prog 90 #[.pointer (some ⟨G,0,none⟩)] (Value.int .i64) (fun x => decide (x ∈ l1)) g 0 l0.toArray.size w:=fun n os dk x _ =>
    DF_gives x _ (Kd.C_below hr1 (DF_below hb0 hbase)) hc1 (by
     unfold sortWorld
     rw [cell?_grow _ _ _ (by show G < (putRow _ _ _ _ _).heap.size;rw [size_putRow];exact hGlt),cell?_putRow_other _ _ g 0 _ _ (Or.inl hne)]
     exact hcell)
   have con:=Try.slices_DeleteFunc (Value.int .i64) (fun _ => rfl) (fun x => decide (x ∈ l1)) 90 #[.pointer (some ⟨G,0,none⟩)] eg 0 Try.zeroValue3 g 0 c0 l0.toArray w pa po hH (by show l0.length ≤ _;have:=hcap;unfold maxLen at this;omega) hn
   change Calls Try.prog 88 #[.slice (some ⟨g,0,none⟩) l0.length c0, .func (.func 90) #[] #[.pointer (some ⟨G,0,none⟩)]] w (fun e w' => e = .returned (.slice (some ⟨g,0,none⟩) (l0.filter fun x => !decide (x ∈ l1)).length c0) ∧ ∃ q,w' = putRow (Value.int .i64) (Sort.ahead w q) g 0 ((l0.filter fun x => !decide (x ∈ l1)) ++ List.replicate (l0.length - (l0.filter fun x => !decide (x ∈ l1)).length) 0).toArray) at con
   have hfl : (l0.filter fun x => !decide (x ∈ l1)).length ≤ l0.length:=List.length_filter_le _ _
   generalize (l0.filter fun x => !decide (x ∈ l1)) = fl at con hfl ⊢
   refine con.mono fun e w' ⟨he,q,hw⟩ => ⟨_,he, ?_, ?_⟩
   ·subst hw
    refine Kd.R_of_own ?_ (fun _ _ => trivial)
    refine ⟨by simp [encs],Or.inr ⟨g,c0,putCells (Value.int .i64) 0 (fl ++ List.replicate (l0.length - fl.length) 0).toArray cur,rfl,hbase, ?_,by omega,hcap,by rw [← hsz];simp [putCells], ?_⟩⟩
    ·simp only [putRow,mapBlock,Array.getElem?_modify,if_true]
     show (w.heap[g]?).map _ = _
     rw [hg]
     rfl
    ·apply List.ext_getElem
     ·simp [putCells,encs]
      omega
     ·intro j h1 h2
      have hj : j < fl.length:=by simpa [encs] using h2
      simp [putCells,encs]
      rw [if_pos (by omega),List.getElem?_append_left hj,List.getElem?_eq_getElem hj]
      rfl
   ·subst hw
    have:=DF_below (n:=q) (dk:=(fl ++ List.replicate (l0.length - fl.length) 0).toArray) (os:=#[]) hb0 hbase
    have e_ : ∀ X : World,grow X #[] = X:=fun X => by
     unfold grow
     rw [Array.append_empty]
    rw [e_] at this
    exact this
 ·rw [if_neg hl] at h
  cases h

/-! ### impl_upTo: function 89 -/
def impl_upTo.l0 : Nat → List Int → Int → Int → Option (List Int)
 | 0,_,_,_ => none
 | k + 1,x3,x6,x7 => if x7 < x6 then (if x3.length < 17592186044416 then (impl_upTo.l0 k (x3 ++ [x7]) x6 (wrap64 (x7 + 1))) else (none)) else (some x3)
def impl_upTo.f (k : Nat) (a0 : Int) : Option (List Int):=impl_upTo.l0 k (([] : List Int)) a0 0
theorem impl_upTo.mono_l : ∀ k,(∀ y0 y1 y2,LeO (impl_upTo.l0 k y0 y1 y2) (impl_upTo.l0 (k + 1) y0 y1 y2))
 | 0 => fun _ _ _ r h => by simp [impl_upTo.l0] at h
 | k + 1 => by
  have ih0:=impl_upTo.mono_l k
  ·intro y0 y1 y2
   unfold impl_upTo.l0
   repeat' first
   | (with_reducible exact ih0 _ _ _)
   | (with_reducible exact LeO.refl _)
   | (with_reducible exact LeO.none _)
   | (with_reducible refine LeO.ite ?_ ?_)
   | (with_reducible refine LeO.bind ?_ (fun _ => ?_))
   | exact ih0 _ _ _
   | exact LeO.none _
   | refine LeO.ite ?_ ?_
   | refine LeO.bind ?_ (fun _ => ?_)
theorem impl_upTo.mono : ∀ a0 k,LeO (impl_upTo.f k a0) (impl_upTo.f (k + 1) a0):=by
 intro a0 k
 have ih0:=impl_upTo.mono_l k
 unfold impl_upTo.f
 repeat' first
   | (with_reducible exact ih0 _ _ _)
   | (with_reducible exact LeO.refl _)
   | (with_reducible exact LeO.none _)
   | (with_reducible refine LeO.ite ?_ ?_)
   | (with_reducible refine LeO.bind ?_ (fun _ => ?_))
   | exact ih0 _ _ _
   | exact LeO.none _
   | refine LeO.ite ?_ ?_
   | refine LeO.bind ?_ (fun _ => ?_)
set_option maxHeartbeats 8000000 in
set_option maxRecDepth 100000 in
theorem impl_upTo.calls (k : Nat) (a0 : Int) (r : List Int) (w : World) (h : impl_upTo.f k a0 = some r) :
  Calls Try.prog 89 #[.int .i64 a0] w fun e w' => ∃ v0_ : Value,e = .returned (v0_) ∧ Kd.R (Kd.int .i64) 3 w' w.heap.size (fun _ => True) v0_ r ∧ Below w.heap.size w w':=by
 have HB:=Aside0.mk (Below.refl w.heap.size w)
 have H : (impl_upTo.l0 k (([] : List Int)) a0 0) = some r:=h
 clear h
 obtain ⟨y260,hy260⟩ : ∃ y_ : List Int,y_ = (([] : List Int)):=⟨_,rfl⟩
 replace H : (impl_upTo.l0 k y260 a0 0) = some r:=by first | (rw [hy260];with_reducible exact H) | (have H2_:=(Option.bind_some _ _).symm.trans H;rw [hy260];with_reducible exact H2_) | (have H2_:=(Option.bind_some _ _).symm.trans H;with_reducible exact H2_) | with_reducible exact H | (rw [hy260];exact H) | exact H
 have Ny260:=Aside0.mk hy260
 clear hy260
 have H':=Aside0.mk H
 clear H
 go_enter Try.func89,Try.ntmps89
 go_wp2_with (first | ((with_reducible refine gate_dst (N:=5) rfl ?_);refine Kd.R_lit (Kd.int .i64) _ 3 ?hg (N:=5) ?hd (xs:=([] : List Int)) (inner := []) (ok:=fun _ => True) (okp:=fun _ => True) ?hr ?hp (fun _ hk => hk) trivial (Below.refl _ _) (Nat.le_refl _) (by simp) ?_;(case hd => rfl);(case hg => rfl);(case hr => first | (go_simp;done) | (go_simp;rfl));(case hp => exact (Reps.none _ _));intro v261 w2 ho3 hb hg_ hnew_;clear hg_ hnew_;(first | rw [← Ny260.out] at ho3 | (simp only [Int.reduceToNat] at ho3;rw [← Ny260.out] at ho3));have n0_:=Aside0.mk (Kd.R_lower ho3 (below_size (by repeat (first | (with_reducible first | exact HB.out | apply below_alloc | apply pw_below_drewN | apply below_drew1) | exact HB.out))));have n1_:=Aside0.mk (below_step (by repeat (first | (with_reducible first | exact HB.out | apply below_alloc | apply pw_below_drewN | apply below_drew1) | exact HB.out)) hb);clear HB;have HO262:=n0_;have HB:=n1_;clear n0_ n1_;clear hb ho3))
 go_loopg [3,7] k (fun kq v3 v7 w' => ∃ (x3_1 : List Int) (x7_1 : Int),v7 = .int .i64 x7_1 ∧ Aside0 (impl_upTo.l0 kq x3_1 a0 x7_1 = some r) ∧ Aside0 (kq ≤ k) ∧ Aside0 (Kd.R (Kd.int .i64) 3 w' w.heap.size (fun _ => True) v3 x3_1) ∧ Aside0 (Below w.heap.size w w'))
 case atStart => exact ⟨(y260),(0),(by first | rfl | (simp;done) | (simp [*];done)),H',⟨Nat.le_refl _⟩,⟨by (with_reducible repeat (first | apply Kd.R_alloc | apply Kd.R_drewN | apply Kd.R_drew));exact HO262.out⟩,⟨by repeat (first | (with_reducible first | exact HB.out | apply below_alloc | apply pw_below_drewN | apply below_drew1) | exact HB.out)⟩⟩
 case round =>
  clear H'
  try clear p2
  obtain ⟨x3_1,x7_1,rfl,HA,HK1,HO_3,HB⟩ := hrel
  cases gk with
  | zero => exact absurd HA.out (by simp [impl_upTo.l0])
  | succ k1 =>
   have H:=HA.out
   clear HA
   simp only [impl_upTo.l0] at H
   by_cases c4 : x7_1 < a0
   ·rw [if_pos c4] at H
    have c4b0 : decide (x7_1 < a0) = true:=decide_eq_true c4
    clear c4
    by_cases c5 : x3_1.length < 17592186044416
    ·rw [if_pos c5] at H
     have LMc5:=Aside0.mk c5
     clear c5
     obtain ⟨y263,hy263⟩ : ∃ y_ : List Int,y_ = (x3_1 ++ [x7_1]):=⟨_,rfl⟩
     replace H : (impl_upTo.l0 k1 y263 a0 (wrap64 (x7_1 + 1))) = some r:=by first | (rw [hy263];with_reducible exact H) | (have H2_:=(Option.bind_some _ _).symm.trans H;rw [hy263];with_reducible exact H2_) | (have H2_:=(Option.bind_some _ _).symm.trans H;with_reducible exact H2_) | with_reducible exact H | (rw [hy263];exact H) | exact H
     have Ny263:=Aside0.mk hy263
     clear hy263
     have H':=Aside0.mk H
     clear H
     go_wp2_with (first | ((with_reducible refine gate_builtin (b := .append) (xs:=#[.tmp 10, .tmp 12]) rfl ?_);at_builtin;refine Kd.R_append (Kd.int .i64) (w0:=w) w.heap.size rfl (.tmp 10) (.tmp 12) 30 3 (.int .i64 0) 8 rfl Try.underlying30 info3 rfl (by decide) (by omega) u3 x3_1 x7_1 [.int .i64 x7_1] (fun _ => True) (fun _ => False) rfl rfl ?aP (fun _ hk => hk.elim) ?aF ?aO ?aB ?aS ?aL ?_;(case aP => exact rfl);(case aB => exact (by repeat (first | (with_reducible first | exact HB.out | apply below_alloc | apply pw_below_drewN | apply below_drew1) | exact HB.out)));(case aF => exact (fun _ _ => trivial));(case aO => exact (by (with_reducible repeat (first | apply Kd.R_alloc | apply Kd.R_drewN | apply Kd.R_drew));exact HO_3.out));(case aS => exact (below_size (by repeat (first | (with_reducible first | exact HB.out | apply below_alloc | apply pw_below_drewN | apply below_drew1) | exact HB.out))));(case aL => have:=LMc5.out;omega);intro v264 w6 ho hb hg hat;rw [← Ny263.out] at ho;have n0_:=Aside0.mk (hb);have n1_:=Aside0.mk (ho);clear HB;clear HO_3;have HB:=n0_;have HO265:=n1_;clear n0_ n1_;clear ho hb hg hat))
     go_roundg k1
     case measure => have:=HK1.out;omega
     case rel => exact ⟨(y263),(wrap64 (x7_1 + 1)),(by first | rfl | (simp;done) | (simp [*];done)),H',⟨by have:=HK1.out;omega⟩,⟨by (with_reducible repeat (first | apply Kd.R_alloc | apply Kd.R_drewN | apply Kd.R_drew));exact HO265.out⟩,⟨by repeat (first | (with_reducible first | exact HB.out | apply below_alloc | apply pw_below_drewN | apply below_drew1) | exact HB.out)⟩⟩
    ·rw [if_neg c5] at H
     exact absurd H (by simp)
   ·rw [if_neg c4] at H
    have c4b0 : decide (x7_1 < a0) = false:=decide_eq_false c4
    clear c4
    obtain rfl:=Option.some.inj H
    go_wp2
    go_ret
    exact ⟨_,by first | rfl | (simp [errW_none,errW_some] <;> rfl) | (simp [*,errW_none,errW_some] <;> rfl),by (with_reducible repeat (first | apply Kd.R_alloc | apply Kd.R_drewN | apply Kd.R_drew));exact HO_3.out,by repeat (first | (with_reducible first | exact HB.out | apply below_alloc | apply pw_below_drewN | apply below_drew1) | exact HB.out)⟩

/-! ### impl_EmptyWagons: function 49 -/
def impl_EmptyWagons.f (k : Nat) (l0 : List (S70)) (l1 : List (S64)) (l2 : List Int) : Option (List Int × Bool):=(impl_IsValidLoading.f k l0 l1 l2).bind fun t267 => (if t267 = true then ((impl_upTo.f k (l0.length : Int)).bind fun t268 => ((slices_DeleteFunc_int.f t268 l2).bind fun t271 => (some (t271,true)))) else (some (([] : List Int),false)))
theorem impl_EmptyWagons.mono : ∀ a0 a1 a2 k,LeO (impl_EmptyWagons.f k a0 a1 a2) (impl_EmptyWagons.f (k + 1) a0 a1 a2):=by
 intro a0 a1 a2 k
 unfold impl_EmptyWagons.f
 repeat' first
   | (with_reducible exact impl_IsValidLoading.mono _ _ _ _)
   | (with_reducible exact impl_upTo.mono _ _)
   | (with_reducible exact LeO.refl _)
   | (with_reducible exact LeO.none _)
   | (with_reducible refine LeO.ite ?_ ?_)
   | (with_reducible refine LeO.bind ?_ (fun _ => ?_))
   | exact impl_IsValidLoading.mono _ _ _ _
   | exact impl_upTo.mono _ _
   | exact LeO.none _
   | refine LeO.ite ?_ ?_
   | refine LeO.bind ?_ (fun _ => ?_)
set_option maxHeartbeats 8000000 in
set_option maxRecDepth 100000 in
theorem impl_EmptyWagons.calls (k : Nat) (A0 : Option Addr) (c0 : Nat) (l0 : List (S70)) (A1 : Option Addr) (c1 : Nat) (l1 : List (S64)) (A2 : Option Addr) (c2 : Nat) (l2 : List Int) (r1 : List Int) (r2 : Bool) (w : World) (hr0 : Kd.C k70 w A0 l0.length l0) (hc0 : l0.length ≤ c0) (hr1 : Kd.C k64 w A1 l1.length l1) (hc1 : l1.length ≤ c1) (hr2 : Kd.C (Kd.int .i64) w A2 l2.length l2) (hc2 : l2.length ≤ c2) (h : impl_EmptyWagons.f k l0 l1 l2 = some (r1,r2)) :
  Calls Try.prog 49 #[.slice A0 l0.length c0, .slice A1 l1.length c1, .slice A2 l2.length c2] w fun e w' => ∃ v0_ : Value,e = .returned (.tuple #[v0_, .bool r2]) ∧ Kd.R (Kd.int .i64) 3 w' w.heap.size (fun _ => True) v0_ r1 ∧ Below w.heap.size w w':=by
 have HR0:=Aside0.mk hr0
 have HC0:=Aside0.mk hc0
 clear hr0 hc0
 have HR1:=Aside0.mk hr1
 have HC1:=Aside0.mk hc1
 clear hr1 hc1
 have HR2:=Aside0.mk hr2
 have HC2:=Aside0.mk hc2
 clear hr2 hc2
 have HB:=Aside0.mk (Below.refl w.heap.size w)
 have H : ((impl_IsValidLoading.f k l0 l1 l2).bind fun t267 => (if t267 = true then ((impl_upTo.f k (l0.length : Int)).bind fun t268 => ((slices_DeleteFunc_int.f t268 l2).bind fun t271 => (some (t271,true)))) else (some (([] : List Int),false)))) = some (r1,r2):=h
 clear h
 replace H:=Option.bind_eq_some_iff.mp H
 obtain ⟨t267,A40,H⟩ := H
 replace H : (if t267 = true then ((impl_upTo.f k (l0.length : Int)).bind fun t268 => ((slices_DeleteFunc_int.f t268 l2).bind fun t271 => (some (t271,true)))) else (some (([] : List Int),false))) = some (r1,r2):=H
 have A4:=Aside0.mk A40
 clear A40
 by_cases c5 : t267 = true
 ·subst c5
  have H1 : ((impl_upTo.f k (l0.length : Int)).bind fun t268 => ((slices_DeleteFunc_int.f t268 l2).bind fun t271 => (some (t271,true)))) = some (r1,r2):=by rw [if_pos rfl] at H;exact H
  clear H
  have H:=H1
  clear H1
  replace H:=Option.bind_eq_some_iff.mp H
  obtain ⟨t268,A60,H⟩ := H
  replace H : ((slices_DeleteFunc_int.f t268 l2).bind fun t271 => (some (t271,true))) = some (r1,r2):=H
  have A6:=Aside0.mk A60
  clear A60
  replace H:=Option.bind_eq_some_iff.mp H
  obtain ⟨t271,A70,H⟩ := H
  replace H : (some (t271,true)) = some (r1,r2):=H
  have A7:=Aside0.mk A70
  clear A70
  simp only [Option.some.injEq,Prod.mk.injEq] at H
  obtain ⟨rfl,rfl⟩ := H
  go_enter Try.func49,Try.ntmps49
  go_wp2_with (first | ((with_reducible refine gate_dst (N:=5) rfl ?_);refine box_event ?hg (N:=5) ?hd (cs:=#[.slice A2 l2.length c2]) (t:=30) ?hr ?_;(case hd => rfl);(case hg => rfl);(case hr => first | (go_simp;done) | (go_simp;rfl));intro gb266 hg w8 hbox hb;have n0_:=Aside0.mk (below_step (by repeat (first | (with_reducible first | exact HB.out | apply below_alloc | apply pw_below_drewN | apply below_drew1) | exact HB.out)) hb);have n1_:=Aside0.mk (hbox);have n2_:=Aside0.mk ((by rw [hg];exact (below_size (by repeat (first | (with_reducible first | exact HB.out | apply below_alloc | apply pw_below_drewN | apply below_drew1) | exact HB.out))) : w.heap.size ≤ gb266));have n3_:=Aside0.mk ((by rw [hg];exact (below_size (by repeat (first | (with_reducible first | exact HB.out | apply below_alloc | apply pw_below_drewN | apply below_drew1) | exact HB.out))) : w.heap.size ≤ gb266));clear HB;have HB:=n0_;have BK266:=n1_;have GW266:=n2_;have GE266:=n3_;clear n0_ n1_ n2_ n3_;clear hb hbox hg;have hcz9_0 : w8.cell? ⟨gb266,0,none⟩ = some (.slice A2 l2.length c2):=(blk_cell BK266.out 0).trans rfl;have hfz9_0:=blk_frozen BK266.out 0) | ((with_reducible refine gate_callee (f:=24) rfl ?_);refine goesL_ (some 11) rfl rfl Try.func24 (by kernel_rfl) rfl #[.slice A0 l0.length c0, .slice A1 l1.length c1, .slice A2 l2.length c2] rfl (by (try simp only [List.map_toArray,List.map_cons,List.map_nil]);first | done | rfl | (simp only [List.length_drop,List.length_take];rfl)) ?_;(with_reducible refine (impl_IsValidLoading.calls k _ _ l0 _ _ l1 _ _ l2 true _ ?side1 ?side2 ?side3 ?side4 ?side5 ?side6 A4.out).mono ?_);(case side1 => repeat (first | exact (Kd.C_below HR0.out HB.out) | (with_reducible refine Kd.C_alloc ?_ _) | (with_reducible refine Kd.C_drewN ?_ _) | (with_reducible refine Kd.C_drew ?_)));(case side2 => exact HC0.out);(case side3 => repeat (first | exact (Kd.C_below HR1.out HB.out) | (with_reducible refine Kd.C_alloc ?_ _) | (with_reducible refine Kd.C_drewN ?_ _) | (with_reducible refine Kd.C_drew ?_)));(case side4 => exact HC1.out);(case side5 => repeat (first | exact (Kd.C_below HR2.out HB.out) | (with_reducible refine Kd.C_alloc ?_ _) | (with_reducible refine Kd.C_drewN ?_ _) | (with_reducible refine Kd.C_drew ?_)));(case side6 => exact HC2.out);rintro e w10 ⟨rfl,hb⟩;refine ⟨_,rfl, ?_⟩;have n0_:=Aside0.mk (blk_below (g:=gb266) (o := .cells #[.slice A2 l2.length c2] 30 (0,0)) (by (with_reducible repeat (first | refine blk_drewN ?_ _ | refine blk_drew ?_ | refine blk_alloc ?_ _));exact BK266.out) hb);have n1_:=Aside0.mk (below_step (by repeat (first | (with_reducible first | exact HB.out | apply below_alloc | apply pw_below_drewN | apply below_drew1 | refine below_set ?_ GE266.out) | exact HB.out)) hb);clear BK266;clear HB;have BK266:=n0_;have HB:=n1_;clear n0_ n1_;(try clear hb);(try clear hb2);(try clear hk);(try clear hi)) | ((with_reducible refine gate_callee (f:=89) rfl ?_);refine goesL_ (some 15) rfl rfl Try.func89 (by kernel_rfl) rfl #[.int .i64 (l0.length : Int)] rfl (by (try simp only [List.map_toArray,List.map_cons,List.map_nil]);first | done | rfl | (simp only [List.length_drop,List.length_take];rfl)) ?_;(with_reducible refine (impl_upTo.calls k (l0.length : Int) t268 _ A6.out).mono ?_);rintro e w11 ⟨v269,rfl,ho0,hb⟩;refine ⟨_,rfl, ?_⟩;have n0_:=Aside0.mk (Kd.R_lower ho0 (below_size (by repeat (first | (with_reducible first | exact HB.out | apply below_alloc | apply pw_below_drewN | apply below_drew1 | refine below_set ?_ GE266.out) | exact HB.out))));have n1_:=Aside0.mk (blk_below (g:=gb266) (o := .cells #[.slice A2 l2.length c2] 30 (0,0)) (by (with_reducible repeat (first | refine blk_drewN ?_ _ | refine blk_drew ?_ | refine blk_alloc ?_ _));exact BK266.out) hb);have n2_:=Aside0.mk (below_step (by repeat (first | (with_reducible first | exact HB.out | apply below_alloc | apply pw_below_drewN | apply below_drew1 | refine below_set ?_ GE266.out) | exact HB.out)) hb);clear BK266;clear HB;have HO270:=n0_;have BK266:=n1_;have HB:=n2_;clear n0_ n1_ n2_;(try clear hb);(try clear hb2);(try clear hk);(try clear hi);(try clear ho0);obtain ⟨Ao12,co12,eo12⟩ := Kd.R_slice HO270.out;subst eo12) | ((with_reducible refine gate_callee (f:=88) rfl ?_);refine goesL_ (some 17) rfl rfl Try.func88 (by kernel_rfl) rfl #[.slice Ao12 t268.length co12,(.func (.func 90) #[] #[.pointer (some ⟨gb266,0,none⟩)])] rfl (by (try simp only [List.map_toArray,List.map_cons,List.map_nil]);first | done | rfl | (simp only [List.length_drop,List.length_take];rfl)) ?_;(refine (slices_DeleteFunc_int.made (w0:=w) (G:=gb266) (by (with_reducible repeat (first | apply Kd.R_alloc | apply Kd.R_drewN | apply Kd.R_drew));exact HO270.out) HR2.out HC2.out (by (with_reducible repeat (first | refine blk_drewN ?_ _ | refine blk_drew ?_ | refine blk_alloc ?_ _));exact BK266.out) (by repeat (first | (with_reducible first | exact HB.out | apply below_alloc | apply pw_below_drewN | apply below_drew1 | refine below_set ?_ GE266.out) | exact HB.out)) A7.out).mono ?_);rintro e w13 ⟨v272,rfl,ho0,hb⟩;refine ⟨_,rfl, ?_⟩;have n1_:=Aside0.mk ho0;have n3_:=Aside0.mk hb;clear HO270;clear BK266;clear HB;have HO273:=n1_;have HB:=n3_;clear n1_ n3_ hb ho0))
  go_ret2
  exact ⟨_,by first | rfl | (simp [errW_none,errW_some] <;> rfl) | (simp [*,errW_none,errW_some] <;> rfl),by (with_reducible repeat (first | apply Kd.R_alloc | apply Kd.R_drewN | apply Kd.R_drew));exact Kd.R_mono HO273.out (fun _ hk => trivial),by repeat (first | (with_reducible first | exact HB.out | apply below_alloc | apply pw_below_drewN | apply below_drew1 | refine below_set ?_ GE266.out) | exact HB.out)⟩
 ·replace c5:=Bool.eq_false_iff.mpr c5
  subst c5
  have H1 : (some (([] : List Int),false)) = some (r1,r2):=by rw [if_neg (show ¬ (false = true) by decide)] at H;exact H
  clear H
  have H:=H1
  clear H1
  simp only [Option.some.injEq,Prod.mk.injEq] at H
  obtain ⟨rfl,rfl⟩ := H
  go_enter Try.func49,Try.ntmps49
  go_wp2_with (first | ((with_reducible refine gate_dst (N:=5) rfl ?_);refine box_event ?hg (N:=5) ?hd (cs:=#[.slice A2 l2.length c2]) (t:=30) ?hr ?_;(case hd => rfl);(case hg => rfl);(case hr => first | (go_simp;done) | (go_simp;rfl));intro gb266 hg w14 hbox hb;have n0_:=Aside0.mk (below_step (by repeat (first | (with_reducible first | exact HB.out | apply below_alloc | apply pw_below_drewN | apply below_drew1) | exact HB.out)) hb);have n1_:=Aside0.mk (hbox);have n2_:=Aside0.mk ((by rw [hg];exact (below_size (by repeat (first | (with_reducible first | exact HB.out | apply below_alloc | apply pw_below_drewN | apply below_drew1) | exact HB.out))) : w.heap.size ≤ gb266));have n3_:=Aside0.mk ((by rw [hg];exact (below_size (by repeat (first | (with_reducible first | exact HB.out | apply below_alloc | apply pw_below_drewN | apply below_drew1) | exact HB.out))) : w.heap.size ≤ gb266));clear HB;have HB:=n0_;have BK266:=n1_;have GW266:=n2_;have GE266:=n3_;clear n0_ n1_ n2_ n3_;clear hb hbox hg;have hcz15_0 : w14.cell? ⟨gb266,0,none⟩ = some (.slice A2 l2.length c2):=(blk_cell BK266.out 0).trans rfl;have hfz15_0:=blk_frozen BK266.out 0) | ((with_reducible refine gate_callee (f:=24) rfl ?_);refine goesL_ (some 11) rfl rfl Try.func24 (by kernel_rfl) rfl #[.slice A0 l0.length c0, .slice A1 l1.length c1, .slice A2 l2.length c2] rfl (by (try simp only [List.map_toArray,List.map_cons,List.map_nil]);first | done | rfl | (simp only [List.length_drop,List.length_take];rfl)) ?_;(with_reducible refine (impl_IsValidLoading.calls k _ _ l0 _ _ l1 _ _ l2 false _ ?side1 ?side2 ?side3 ?side4 ?side5 ?side6 A4.out).mono ?_);(case side1 => repeat (first | exact (Kd.C_below HR0.out HB.out) | (with_reducible refine Kd.C_alloc ?_ _) | (with_reducible refine Kd.C_drewN ?_ _) | (with_reducible refine Kd.C_drew ?_)));(case side2 => exact HC0.out);(case side3 => repeat (first | exact (Kd.C_below HR1.out HB.out) | (with_reducible refine Kd.C_alloc ?_ _) | (with_reducible refine Kd.C_drewN ?_ _) | (with_reducible refine Kd.C_drew ?_)));(case side4 => exact HC1.out);(case side5 => repeat (first | exact (Kd.C_below HR2.out HB.out) | (with_reducible refine Kd.C_alloc ?_ _) | (with_reducible refine Kd.C_drewN ?_ _) | (with_reducible refine Kd.C_drew ?_)));(case side6 => exact HC2.out);rintro e w16 ⟨rfl,hb⟩;refine ⟨_,rfl, ?_⟩;have n0_:=Aside0.mk (blk_below (g:=gb266) (o := .cells #[.slice A2 l2.length c2] 30 (0,0)) (by (with_reducible repeat (first | refine blk_drewN ?_ _ | refine blk_drew ?_ | refine blk_alloc ?_ _));exact BK266.out) hb);have n1_:=Aside0.mk (below_step (by repeat (first | (with_reducible first | exact HB.out | apply below_alloc | apply pw_below_drewN | apply below_drew1 | refine below_set ?_ GE266.out) | exact HB.out)) hb);clear BK266;clear HB;have BK266:=n0_;have HB:=n1_;clear n0_ n1_;(try clear hb);(try clear hb2);(try clear hk);(try clear hi)))
  go_ret2
  exact ⟨_,by first | rfl | (simp [errW_none,errW_some] <;> rfl) | (simp [*,errW_none,errW_some] <;> rfl),by first | exact Kd.R_nil _ _ _ _ _ | exact Kd.N_nil _ _ _ _ _ | exact Kd.V_nil _ _ _ _ _ | exact Kd.Q_nil _ _ _ _ _ | exact Kd.S_nil _ _ _ _ _,by repeat (first | (with_reducible first | exact HB.out | apply below_alloc | apply pw_below_drewN | apply below_drew1 | refine below_set ?_ GE266.out) | exact HB.out)⟩

end Go.Proofs.Ythfbnadlpninaaa.PFnExactEmptyWagons
