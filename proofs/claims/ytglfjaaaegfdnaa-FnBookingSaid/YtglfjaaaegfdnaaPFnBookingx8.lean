-- Written by a program of this session, over the kit's print (wip/xprint.py)
import Derived.Test.YtglfjaaaegfdnaaPFnBookingx0
import Derived.Test.YtglfjaaaegfdnaaPFnBookingx7
namespace Go.Proofs.Ytglfjaaaegfdnaa.PFnBooking
open Go.RowKit Go.Proofs.YtglfjaaaegfdnaaW.PrintWords Go.Proofs.YtglfjaaaegfdnaaW.PrintLast Go.Proofs.YtglfjaaaegfdnaaW.PrintMore
attribute [local go_sem] max2_int min2_int max_two min_two max_three min_three max_four min_four   -- for this text's walks alone
set_option linter.unusedVariables false
set_option linter.unusedSimpArgs false

/-! ### impl_IsValidGate: function 15 -/
mutual
def impl_IsValidGate.j0 : Nat → Bool → List Int → List (List Int) → Option (Bool)
 | 0,_,_,_ => none
 | k + 1,x21,x333000,x333001 => if x21 = true then (some false) else (impl_IsValidGate.l0 k ([] : List Int) x333001 (x333001.length : Int) 0 x333000 x333001)
def impl_IsValidGate.l0 : Nat → List Int → List (List Int) → Int → Int → List Int → List (List Int) → Option (Bool)
 | 0,_,_,_,_,_,_ => none
 | k + 1,x3,x24,x25,x26,x333000,x333001 => if x26 < x25 then (if 0 ≤ x26 then (if x26 < (x24.length : Int) then (if x26 < (x333000.length : Int) then ((impl_within.f (rd x333000 x26) 0 6).bind fun t337 => (if t337 = true then (impl_IsValidGate.j2 k x3 (rd_L2 x24 x26) x24 x25 x26 (decide (((rd_L2 x24 x26).length : Int) > (rd x333000 x26))) x333000 x333001) else (impl_IsValidGate.j2 k x3 (rd_L2 x24 x26) x24 x25 x26 true x333000 x333001))) else (none)) else (none)) else (none)) else ((klen.f x3).bind fun t334 => (some (decide (t334 ≤ 30))))
def impl_IsValidGate.j2 : Nat → List Int → List Int → List (List Int) → Int → Int → Bool → List Int → List (List Int) → Option (Bool)
 | 0,_,_,_,_,_,_,_,_ => none
 | k + 1,x3,x5,x24,x25,x26,x47,x333000,x333001 => if x47 = true then (some false) else (impl_IsValidGate.l1 k x3 x5 x24 x25 x26 x5 (x5.length : Int) 0 x333000 x333001)
def impl_IsValidGate.l1 : Nat → List Int → List Int → List (List Int) → Int → Int → List Int → Int → Int → List Int → List (List Int) → Option (Bool)
 | 0,_,_,_,_,_,_,_,_,_,_ => none
 | k + 1,x3,x5,x24,x25,x26,x48,x49,x50,x333000,x333001 => if x50 < x49 then (if 0 ≤ x50 then (if x50 < (x48.length : Int) then ((impl_within.f (rd x48 x50) 1 99).bind fun t340 => (if t340 = true then ((klook.f x3 (rd x48 x50)).bind fun t341 => (if t341 = true then (some false) else (if x50 > 0 then (if 0 ≤ (wrap64 (x50 - 1)) then (if (wrap64 (x50 - 1)) < (x5.length : Int) then (if (rd x48 x50) ≤ (rd x5 (wrap64 (x50 - 1))) then (some false) else ((kput.f x3 (rd x48 x50)).bind fun t343 => (impl_IsValidGate.l1 k t343 x5 x24 x25 x26 x48 x49 (wrap64 (x50 + 1)) x333000 x333001))) else (none)) else (none)) else ((kput.f x3 (rd x48 x50)).bind fun t344 => (impl_IsValidGate.l1 k t344 x5 x24 x25 x26 x48 x49 (wrap64 (x50 + 1)) x333000 x333001))))) else (some false))) else (none)) else (none)) else (impl_IsValidGate.l0 k x3 x24 x25 (wrap64 (x26 + 1)) x333000 x333001)
end
def impl_IsValidGate.f (k : Nat) (l0_0 : List Int) (l0_1 : List (List Int)) : Option (Bool):=(impl_within.f (l0_0.length : Int) 1 12).bind fun t333 => (if t333 = true then (impl_IsValidGate.j0 k ((l0_1.length : Int) != (l0_0.length : Int)) l0_0 l0_1) else (impl_IsValidGate.j0 k true l0_0 l0_1))
theorem impl_IsValidGate.mono_l : ∀ k,(∀ y0 y1 y2,LeO (impl_IsValidGate.j0 k y0 y1 y2) (impl_IsValidGate.j0 (k + 1) y0 y1 y2)) ∧ (∀ y0 y1 y2 y3 y4 y5,LeO (impl_IsValidGate.l0 k y0 y1 y2 y3 y4 y5) (impl_IsValidGate.l0 (k + 1) y0 y1 y2 y3 y4 y5)) ∧ (∀ y0 y1 y2 y3 y4 y5 y6 y7,LeO (impl_IsValidGate.j2 k y0 y1 y2 y3 y4 y5 y6 y7) (impl_IsValidGate.j2 (k + 1) y0 y1 y2 y3 y4 y5 y6 y7)) ∧ (∀ y0 y1 y2 y3 y4 y5 y6 y7 y8 y9,LeO (impl_IsValidGate.l1 k y0 y1 y2 y3 y4 y5 y6 y7 y8 y9) (impl_IsValidGate.l1 (k + 1) y0 y1 y2 y3 y4 y5 y6 y7 y8 y9))
 | 0 => ⟨fun _ _ _ r h => by simp [impl_IsValidGate.j0] at h,fun _ _ _ _ _ _ r h => by simp [impl_IsValidGate.l0] at h,fun _ _ _ _ _ _ _ _ r h => by simp [impl_IsValidGate.j2] at h,fun _ _ _ _ _ _ _ _ _ _ r h => by simp [impl_IsValidGate.l1] at h⟩
 | k + 1 => by
  obtain ⟨ih0,ih1,ih2,ih3⟩ := impl_IsValidGate.mono_l k;refine ⟨?_, ?_, ?_, ?_⟩
  ·intro y0 y1 y2
   unfold impl_IsValidGate.j0
   repeat' first
   | (with_reducible exact ih0 _ _ _)
   | (with_reducible exact ih1 _ _ _ _ _ _)
   | (with_reducible exact ih2 _ _ _ _ _ _ _ _)
   | (with_reducible exact ih3 _ _ _ _ _ _ _ _ _ _)
   | (with_reducible exact LeO.refl _)
   | (with_reducible exact LeO.none _)
   | (with_reducible refine LeO.ite ?_ ?_)
   | (with_reducible refine LeO.bind ?_ (fun _ => ?_))
   | exact ih0 _ _ _
   | exact ih1 _ _ _ _ _ _
   | exact ih2 _ _ _ _ _ _ _ _
   | exact ih3 _ _ _ _ _ _ _ _ _ _
   | exact LeO.none _
   | refine LeO.ite ?_ ?_
   | refine LeO.bind ?_ (fun _ => ?_)
  ·intro y0 y1 y2 y3 y4 y5
   unfold impl_IsValidGate.l0
   repeat' first
   | (with_reducible exact ih0 _ _ _)
   | (with_reducible exact ih1 _ _ _ _ _ _)
   | (with_reducible exact ih2 _ _ _ _ _ _ _ _)
   | (with_reducible exact ih3 _ _ _ _ _ _ _ _ _ _)
   | (with_reducible exact LeO.refl _)
   | (with_reducible exact LeO.none _)
   | (with_reducible refine LeO.ite ?_ ?_)
   | (with_reducible refine LeO.bind ?_ (fun _ => ?_))
   | exact ih0 _ _ _
   | exact ih1 _ _ _ _ _ _
   | exact ih2 _ _ _ _ _ _ _ _
   | exact ih3 _ _ _ _ _ _ _ _ _ _
   | exact LeO.none _
   | refine LeO.ite ?_ ?_
   | refine LeO.bind ?_ (fun _ => ?_)
  ·intro y0 y1 y2 y3 y4 y5 y6 y7
   unfold impl_IsValidGate.j2
   repeat' first
   | (with_reducible exact ih0 _ _ _)
   | (with_reducible exact ih1 _ _ _ _ _ _)
   | (with_reducible exact ih2 _ _ _ _ _ _ _ _)
   | (with_reducible exact ih3 _ _ _ _ _ _ _ _ _ _)
   | (with_reducible exact LeO.refl _)
   | (with_reducible exact LeO.none _)
   | (with_reducible refine LeO.ite ?_ ?_)
   | (with_reducible refine LeO.bind ?_ (fun _ => ?_))
   | exact ih0 _ _ _
   | exact ih1 _ _ _ _ _ _
   | exact ih2 _ _ _ _ _ _ _ _
   | exact ih3 _ _ _ _ _ _ _ _ _ _
   | exact LeO.none _
   | refine LeO.ite ?_ ?_
   | refine LeO.bind ?_ (fun _ => ?_)
  ·intro y0 y1 y2 y3 y4 y5 y6 y7 y8 y9
   unfold impl_IsValidGate.l1
   repeat' first
   | (with_reducible exact ih0 _ _ _)
   | (with_reducible exact ih1 _ _ _ _ _ _)
   | (with_reducible exact ih2 _ _ _ _ _ _ _ _)
   | (with_reducible exact ih3 _ _ _ _ _ _ _ _ _ _)
   | (with_reducible exact LeO.refl _)
   | (with_reducible exact LeO.none _)
   | (with_reducible refine LeO.ite ?_ ?_)
   | (with_reducible refine LeO.bind ?_ (fun _ => ?_))
   | exact ih0 _ _ _
   | exact ih1 _ _ _ _ _ _
   | exact ih2 _ _ _ _ _ _ _ _
   | exact ih3 _ _ _ _ _ _ _ _ _ _
   | exact LeO.none _
   | refine LeO.ite ?_ ?_
   | refine LeO.bind ?_ (fun _ => ?_)
theorem impl_IsValidGate.mono : ∀ a0 a1 k,LeO (impl_IsValidGate.f k a0 a1) (impl_IsValidGate.f (k + 1) a0 a1):=by
 intro a0 a1 k;obtain ⟨ih0,ih1,ih2,ih3⟩ := impl_IsValidGate.mono_l k
 unfold impl_IsValidGate.f
 repeat' first
   | (with_reducible exact ih0 _ _ _)
   | (with_reducible exact ih1 _ _ _ _ _ _)
   | (with_reducible exact ih2 _ _ _ _ _ _ _ _)
   | (with_reducible exact ih3 _ _ _ _ _ _ _ _ _ _)
   | (with_reducible exact LeO.refl _)
   | (with_reducible exact LeO.none _)
   | (with_reducible refine LeO.ite ?_ ?_)
   | (with_reducible refine LeO.bind ?_ (fun _ => ?_))
   | exact ih0 _ _ _
   | exact ih1 _ _ _ _ _ _
   | exact ih2 _ _ _ _ _ _ _ _
   | exact ih3 _ _ _ _ _ _ _ _ _ _
   | exact LeO.none _
   | refine LeO.ite ?_ ?_
   | refine LeO.bind ?_ (fun _ => ?_)
set_option maxHeartbeats 8000000 in
set_option maxRecDepth 100000 in
theorem impl_IsValidGate.calls (k : Nat) (A0_0 : Option Addr) (c0_0 : Nat) (l0_0 : List Int) (A0_1 : Option Addr) (c0_1 : Nat) (l0_1 : List (List Int)) (r : Bool) (w : World) (hr0_0 : Kd.C (Kd.int .i64) w A0_0 l0_0.length l0_0) (hc0_0 : l0_0.length ≤ c0_0) (hr0_1 : Kd.C (Kd.slice 3 (Kd.int .i64)) w A0_1 l0_1.length l0_1) (hc0_1 : l0_1.length ≤ c0_1) (h : impl_IsValidGate.f k l0_0 l0_1 = some r) :
  Calls Try.prog 15 #[.agg #[.slice A0_0 l0_0.length c0_0, .slice A0_1 l0_1.length c0_1]] w fun e w' => e = .returned (.bool r) ∧ Below w.heap.size w w':=by
 have hu27:=Try.underlying27;have HR0_0:=am_ hr0_0;have HC0_0:=am_ hc0_0;clear hr0_0 hc0_0;have HR0_1:=am_ hr0_1;have HC0_1:=am_ hc0_1;clear hr0_1 hc0_1;have HB:=am_ (Below.refl w.heap.size w);have H : ((impl_within.f (l0_0.length : Int) 1 12).bind fun t333 => (if t333 = true then (impl_IsValidGate.j0 k ((l0_1.length : Int) != (l0_0.length : Int)) l0_0 l0_1) else (impl_IsValidGate.j0 k true l0_0 l0_1))) = some r:=h;clear h;have HC2:=am_ H;clear H;have hmm := @run_makeMap Try.prog;go_enter Try.func15,Try.ntmps15;go_upto_region 1 with ((with_reducible refine gate_dst (N:=1) rfl ?_);(try (refine gate_guard (by rfl) ?_;dsimp only));refine box_event ?hg (N:=1) ?hd (cs:=#[.slice A0_0 l0_0.length c0_0, .slice A0_1 l0_1.length c0_1]) (t:=27) ?hr ?_;(case hd => rfl);(case hg => rfl);(case hr => (go_simp;done));intro gb332 hg w3 hbox hb;have BK332:=am_ hbox;have GW332:=am_ (ge_ hg (by exact HB.out));have GE332:=am_ (ge_ hg (by exact HB.out));replace HB:=am_ (below_step (by exact HB.out) hb);clear hb hbox hg);go_cut [21] (fun v21 wc => ∃ (kq : Nat) (x21_1 : Bool),v21 = .bool x21_1 ∧ Aside0 (impl_IsValidGate.j0 kq x21_1 l0_0 l0_1 = some r) ∧ Aside0 (kq ≤ k) ∧ Aside0 (wc.heap[gb332]? = some (.cells #[(.slice A0_0 l0_0.length c0_0),(.slice A0_1 l0_1.length c0_1)] 27 (0,0))) ∧ Aside0 (Below w.heap.size w wc))
 case first =>
  have H:=HC2.out;clear HC2;replace H:=bn_ H;obtain ⟨t333,A4,H⟩:=H;replace H:=jb_ H;obtain ⟨rfl,H⟩|⟨rfl,H⟩:=H
  ·have H':=am_ H;clear H;have hcz7_0:=c2_0 BK332.out;have hcz7_1:=c2_1 BK332.out;have hfz7_0:=blk_frozen BK332.out 0;have hfz7_1:=blk_frozen BK332.out 1;go_wp2_with ((with_reducible refine gate_callee (f:=53) rfl ?_);refine goesL_ (some 11) rfl rfl Try.func53 (by kernel_rfl) rfl #[.int .i64 (l0_0.length : Int), .int .i64 1, .int .i64 12] rfl (by (try simp only [List.map_toArray,List.map_cons,List.map_nil]);rfl) ?_;(with_reducible refine (impl_within.calls (l0_0.length : Int) 1 12 false _ A4.out).mono ?_);rintro e w' ⟨rfl,⟨nd,rfl⟩⟩;refine ⟨_,rfl, ?_⟩);go_meet;case rel =>exact ⟨_,(true),(by rfl),H',⟨by omega⟩,⟨by (with_reducible repeat (refine blk_drewN ?_ _));exact BK332.out⟩,⟨by repeat ((with_reducible first | exact HB.out | apply pw_below_drewN))⟩⟩
  have H':=am_ H;clear H;have hcz6_0:=c2_0 BK332.out;have hcz6_1:=c2_1 BK332.out;have hfz6_0:=blk_frozen BK332.out 0;have hfz6_1:=blk_frozen BK332.out 1;go_wp2_with ((with_reducible refine gate_callee (f:=53) rfl ?_);refine goesL_ (some 11) rfl rfl Try.func53 (by kernel_rfl) rfl #[.int .i64 (l0_0.length : Int), .int .i64 1, .int .i64 12] rfl (by (try simp only [List.map_toArray,List.map_cons,List.map_nil]);rfl) ?_;(with_reducible refine (impl_within.calls (l0_0.length : Int) 1 12 true _ A4.out).mono ?_);rintro e w' ⟨rfl,⟨nd,rfl⟩⟩;refine ⟨_,rfl, ?_⟩);go_meet;case rel =>exact ⟨_,(((l0_1.length : Int) != (l0_0.length : Int))),(by rfl),H',⟨by omega⟩,⟨by (with_reducible repeat (refine blk_drewN ?_ _));exact BK332.out⟩,⟨by repeat ((with_reducible first | exact HB.out | apply pw_below_drewN))⟩⟩
 case rest =>
 clear HC2;(try clear c1);(try clear p2);(try clear c5);(try clear hcz6_0);(try clear hcz6_1);(try clear hcz7_0);(try clear hcz7_1);(try clear hfz6_0);(try clear hfz6_1);(try clear hfz7_0);(try clear hfz7_1);obtain ⟨kq,x21_1,rfl,HA,HJ1,BK332,HB⟩ := hcut
 cases kq with
 | zero =>exact absurd HA.out (by simp [impl_IsValidGate.j0])
 | succ kj1 =>
 have H:=HA.out;clear HA;simp only [impl_IsValidGate.j0] at H;replace H:=ib_ H;obtain ⟨rfl,H⟩|⟨rfl,H⟩:=H
 ·obtain rfl:=Option.some.inj H;go_wp2;go_ret;exact ⟨by rfl,by exact HB.out⟩
 have H':=am_ H;clear H;have hcz9_0:=c2_0 BK332.out;have hcz9_1:=c2_1 BK332.out;have hfz9_0:=blk_frozen BK332.out 0;have hfz9_1:=blk_frozen BK332.out 1;obtain ⟨mb,hmb⟩ : ∃ m_ : Nat,wc.heap.size = m_:=⟨_,rfl⟩;have HGE:=am_ (show w.heap.size ≤ mb from by rw [← hmb];exact HB.out.size);have HGB:=am_ (show gb332 < mb from by rw [← hmb];exact blk_lt BK332.out);have hcz9_0a : (wc.alloc (.map #[] 0)).cell? ⟨gb332,0,none⟩ = some (.slice A0_0 l0_0.length c0_0):=(blk_cell (blk_alloc BK332.out _) 0).trans rfl;have hfz9_0b:=blk_frozen (blk_alloc BK332.out (.map #[] 0)) 0;have hcz9_1a : (wc.alloc (.map #[] 0)).cell? ⟨gb332,1,none⟩ = some (.slice A0_1 l0_1.length c0_1):=(blk_cell (blk_alloc BK332.out _) 1).trans rfl;have hfz9_1b:=blk_frozen (blk_alloc BK332.out (.map #[] 0)) 1;go_wp2;clear hmm hcz9_0a;(try clear hfz9_0b);clear hcz9_1a;(try clear hfz9_1b);go_loopg [26] kj1 (fun kq v26 w' => ∃ (x3_2 : List Int) (x26_2 : Int),v26 = .int .i64 x26_2 ∧ Aside0 (impl_IsValidGate.l0 kq x3_2 l0_1 (l0_1.length : Int) x26_2 l0_0 l0_1 = some r) ∧ Aside0 (kq ≤ kj1) ∧ Aside0 (w'.heap[gb332]? = some (.cells #[(.slice A0_0 l0_0.length c0_0),(.slice A0_1 l0_1.length c0_1)] 27 (0,0))) ∧ Aside0 (Below w.heap.size w w') ∧ Aside0 (MapSet Try.prog 3 4 mb w' x3_2));case atStart =>exact ⟨([] : List Int),(0),(by rfl),H',⟨Nat.le_refl _⟩,⟨by (with_reducible repeat (refine blk_alloc ?_ _));exact BK332.out⟩,⟨by repeat ((with_reducible first | exact HB.out | apply below_alloc))⟩,⟨by rw [← hmb];exact MapSet_made _ _ _ _⟩⟩
 case round =>
 clear H';(try clear c1);(try clear p2);(try clear c5);(try clear c8);(try clear hcz6_0);(try clear hcz6_1);(try clear hcz7_0);(try clear hcz7_1);(try clear hcz9_0);(try clear hcz9_1);(try clear hfz6_0);(try clear hfz6_1);(try clear hfz7_0);(try clear hfz7_1);(try clear hfz9_0);(try clear hfz9_1);(try clear p2);obtain ⟨x3_2,x26_2,rfl,HA,HK2,BK332,HB,HM⟩ := hrel
 cases gk with
 | zero =>exact absurd HA.out (by simp [impl_IsValidGate.l0])
 | succ k2 =>
 have H:=HA.out;clear HA;simp only [impl_IsValidGate.l0] at H;replace H:=ie_ H;obtain ⟨c10b0,H⟩|⟨c10b0,H⟩:=H
 ·replace H:=bn_ H;obtain ⟨t334,A34,H⟩:=H;obtain rfl:=Option.some.inj H;go_wp2_with (refine mapSet_len (some 81) rfl rfl (.tmp 80) 70 3 4 rfl Try.underlying70 (MapSet_below HM.out (by repeat (exact Below.refl _ _))) rfl _ (klen.of A34.out) ?_);go_ret;exact ⟨by rfl,by exact HB.out⟩
 replace H:=iq_ H;obtain ⟨c11b0,H⟩:=H;replace H:=iq_ H;obtain ⟨c12b0,H⟩:=H;have HC13:=am_ H;clear H;have p335 : 0 ≤ (x26_2 : Int):=of_decide_eq_true (by (with_reducible assumption));have q335 : x26_2 < (l0_1.length : Int):=of_decide_eq_true (by (with_reducible assumption));obtain ⟨ad335,A335_0,c335_0,e335,hx335_0,hl335_0,hi335_0⟩ := at_L2 HR0_1.out x26_2 p335 q335;cases e335;replace hx335_0:=(HB.out.cell (World.block_lt_of_cell? w _ hx335_0)).trans hx335_0;have HR335_0:=am_ hi335_0;have HC335_0:=am_ hl335_0;clear hi335_0 hl335_0;replace p335:=eq_true p335;replace q335:=eq_true q335;go_upto_region 7 with (fail);go_cut [47] (fun v47 wc => ∃ (kq : Nat) (x47_12 : Bool),v47 = .bool x47_12 ∧ Aside0 (impl_IsValidGate.j2 kq x3_2 (rd_L2 l0_1 x26_2) l0_1 (l0_1.length : Int) x26_2 x47_12 l0_0 l0_1 = some r) ∧ Aside0 (kq ≤ k2) ∧ Aside0 (wc.heap[gb332]? = some (.cells #[(.slice A0_0 l0_0.length c0_0),(.slice (some ad335) l0_1.length c0_1)] 27 (0,0))) ∧ Aside0 (Below w.heap.size w wc) ∧ Aside0 (MapSet Try.prog 3 4 mb wc x3_2))
 case first =>
  have H:=HC13.out;clear HC13;replace H:=iq_ H;obtain ⟨c14b0,H⟩:=H;replace H:=bn_ H;obtain ⟨t337,A15,H⟩:=H;replace H:=jb_ H;obtain ⟨rfl,H⟩|⟨rfl,H⟩:=H
  ·have H':=am_ H;clear H;have hcz18_0:=c2_0 BK332.out;have hcz18_1:=c2_1 BK332.out;have hfz18_0:=blk_frozen BK332.out 0;have hfz18_1:=blk_frozen BK332.out 1;have p336 : 0 ≤ (x26_2 : Int):=of_decide_eq_true (by (with_reducible assumption));have q336 : x26_2 < (l0_0.length : Int):=of_decide_eq_true (by (with_reducible assumption));obtain ⟨ad336,e336,hx336_0⟩ := Kd.at_int HR0_0.out x26_2 p336 q336;cases e336;replace hx336_0:=(HB.out.cell (World.block_lt_of_cell? w _ hx336_0)).trans hx336_0;replace p336:=eq_true p336;replace q336:=eq_true q336;go_wp2_with ((with_reducible refine gate_callee (f:=53) rfl ?_);refine goesL_ (some 36) rfl rfl Try.func53 (by kernel_rfl) rfl #[.int .i64 (rd l0_0 x26_2), .int .i64 0, .int .i64 6] rfl (by (try simp only [List.map_toArray,List.map_cons,List.map_nil]);rfl) ?_;(with_reducible refine (impl_within.calls (rd l0_0 x26_2) 0 6 false _ A15.out).mono ?_);rintro e w' ⟨rfl,⟨nd,rfl⟩⟩;refine ⟨_,rfl, ?_⟩);go_meet;case rel =>exact ⟨_,(true),(by rfl),H',⟨by have:=HJ1.out;have:=HK2.out;omega⟩,⟨by (with_reducible repeat (refine blk_drewN ?_ _));exact BK332.out⟩,⟨by repeat ((with_reducible first | exact HB.out | apply pw_below_drewN))⟩,⟨MapSet_below HM.out (by repeat (first | exact Below.refl _ _ | apply pw_below_drewN))⟩⟩
  have H':=am_ H;clear H;have hcz17_0:=c2_0 BK332.out;have hcz17_1:=c2_1 BK332.out;have hfz17_0:=blk_frozen BK332.out 0;have hfz17_1:=blk_frozen BK332.out 1;have p336 : 0 ≤ (x26_2 : Int):=of_decide_eq_true (by (with_reducible assumption));have q336 : x26_2 < (l0_0.length : Int):=of_decide_eq_true (by (with_reducible assumption));obtain ⟨ad336,e336,hx336_0⟩ := Kd.at_int HR0_0.out x26_2 p336 q336;cases e336;replace hx336_0:=(HB.out.cell (World.block_lt_of_cell? w _ hx336_0)).trans hx336_0;replace p336:=eq_true p336;replace q336:=eq_true q336;go_wp2_with ((with_reducible refine gate_callee (f:=53) rfl ?_);refine goesL_ (some 36) rfl rfl Try.func53 (by kernel_rfl) rfl #[.int .i64 (rd l0_0 x26_2), .int .i64 0, .int .i64 6] rfl (by (try simp only [List.map_toArray,List.map_cons,List.map_nil]);rfl) ?_;(with_reducible refine (impl_within.calls (rd l0_0 x26_2) 0 6 true _ A15.out).mono ?_);rintro e w' ⟨rfl,⟨nd,rfl⟩⟩;refine ⟨_,rfl, ?_⟩;have p338 : 0 ≤ (x26_2 : Int):=of_decide_eq_true (by (with_reducible assumption));have q338 : x26_2 < (l0_0.length : Int):=of_decide_eq_true (by (with_reducible assumption));obtain ⟨ad338,e338,hx338_0⟩ := Kd.at_int HR0_0.out x26_2 p338 q338;obtain rfl : ad336 = ad338:=(by injection e338);replace hx338_0:=(HB.out.cell (World.block_lt_of_cell? w _ hx338_0)).trans hx338_0;replace p338:=eq_true p338;replace q338:=eq_true q338);go_meet;case rel =>exact ⟨_,(decide (((rd_L2 l0_1 x26_2).length : Int) > (rd l0_0 x26_2))),(by rfl),H',⟨by have:=HJ1.out;have:=HK2.out;omega⟩,⟨by (with_reducible repeat (refine blk_drewN ?_ _));exact BK332.out⟩,⟨by repeat ((with_reducible first | exact HB.out | apply pw_below_drewN))⟩,⟨MapSet_below HM.out (by repeat (first | exact Below.refl _ _ | apply pw_below_drewN))⟩⟩
 case rest =>
 clear HC13;(try clear c1);(try clear p2);(try clear c3);(try clear p3);(try clear q3);(try clear hx3);(try clear c5);(try clear c8);(try clear c10);(try clear c10b0);(try clear c11);(try clear c11b0);(try clear c12);(try clear c12b0);(try clear c14);(try clear c14b0);(try clear c15);(try clear c16);(try clear hcz17_0);(try clear hcz17_1);(try clear hcz18_0);(try clear hcz18_1);(try clear hcz6_0);(try clear hcz6_1);(try clear hcz7_0);(try clear hcz7_1);(try clear hcz9_0);(try clear hcz9_1);(try clear hfz17_0);(try clear hfz17_1);(try clear hfz18_0);(try clear hfz18_1);(try clear hfz6_0);(try clear hfz6_1);(try clear hfz7_0);(try clear hfz7_1);(try clear hfz9_0);(try clear hfz9_1);(try clear hx335_0);(try clear hx336_0);(try clear hx338_0);(try clear p2);(try clear p335);(try clear p336);(try clear p338);(try clear q335);(try clear q336);(try clear q338);obtain ⟨kq,x47_12,rfl,HA,HJ12,BK332,HB,HM⟩ := hcut
 cases kq with
 | zero =>exact absurd HA.out (by simp [impl_IsValidGate.j2])
 | succ kj12 =>
 have H:=HA.out;clear HA;simp only [impl_IsValidGate.j2] at H;replace H:=ib_ H;obtain ⟨rfl,H⟩|⟨rfl,H⟩:=H
 ·obtain rfl:=Option.some.inj H;go_wp2;go_ret;exact ⟨by rfl,by exact HB.out⟩
 have H':=am_ H;clear H;go_wp2;go_loopg [50] kj12 (fun kq v50 w' => ∃ (x3_4 : List Int) (x50_4 : Int),v50 = .int .i64 x50_4 ∧ Aside0 (impl_IsValidGate.l1 kq x3_4 (rd_L2 l0_1 x26_2) l0_1 (l0_1.length : Int) x26_2 (rd_L2 l0_1 x26_2) ((rd_L2 l0_1 x26_2).length : Int) x50_4 l0_0 l0_1 = some r) ∧ Aside0 (kq ≤ kj12) ∧ Aside0 (w'.heap[gb332]? = some (.cells #[(.slice A0_0 l0_0.length c0_0),(.slice (some ad335) l0_1.length c0_1)] 27 (0,0))) ∧ Aside0 (Below w.heap.size w w') ∧ Aside0 (MapSet Try.prog 3 4 mb w' x3_4));case atStart =>exact ⟨(x3_2),(0),(by rfl),H',⟨Nat.le_refl _⟩,⟨by exact BK332.out⟩,⟨by exact HB.out⟩,⟨MapSet_below HM.out (by repeat (exact Below.refl _ _))⟩⟩
 case round =>
 clear H';(try clear c1);(try clear p2);(try clear c3);(try clear p3);(try clear q3);(try clear hx3);(try clear c5);(try clear c8);(try clear c10);(try clear c10b0);(try clear c11);(try clear c11b0);(try clear c12);(try clear c12b0);(try clear c14);(try clear c14b0);(try clear c15);(try clear c16);(try clear c19);(try clear hcz17_0);(try clear hcz17_1);(try clear hcz18_0);(try clear hcz18_1);(try clear hcz6_0);(try clear hcz6_1);(try clear hcz7_0);(try clear hcz7_1);(try clear hcz9_0);(try clear hcz9_1);(try clear hfz17_0);(try clear hfz17_1);(try clear hfz18_0);(try clear hfz18_1);(try clear hfz6_0);(try clear hfz6_1);(try clear hfz7_0);(try clear hfz7_1);(try clear hfz9_0);(try clear hfz9_1);(try clear hx335_0);(try clear hx336_0);(try clear hx338_0);(try clear p2);(try clear p3);(try clear p335);(try clear p336);(try clear p338);(try clear q3);(try clear q335);(try clear q336);(try clear q338);obtain ⟨x3_4,x50_4,rfl,HA,HK4,BK332,HB,HM⟩ := hrel
 cases gk with
 | zero =>exact absurd HA.out (by simp [impl_IsValidGate.l1])
 | succ k4 =>
 have H:=HA.out;clear HA;simp only [impl_IsValidGate.l1] at H;replace H:=ie_ H;obtain ⟨c20b0,H⟩|⟨c20b0,H⟩:=H
 ·have H':=am_ H;clear H;go_wp2;go_roundg k4;case measure =>have:=HJ1.out;have:=HK2.out;have:=HJ12.out;have:=HK4.out;omega
  case rel =>exact ⟨(x3_4),(wrap64 (x26_2 + 1)),(by rfl),H',⟨by have:=HJ1.out;have:=HK2.out;have:=HJ12.out;have:=HK4.out;omega⟩,⟨by exact BK332.out⟩,⟨by exact HB.out⟩,⟨MapSet_below HM.out (by repeat (exact Below.refl _ _))⟩⟩
 replace H:=iq_ H;obtain ⟨c21b0,H⟩:=H;replace H:=iq_ H;obtain ⟨c22b0,H⟩:=H;replace H:=bn_ H;obtain ⟨t340,A23,H⟩:=H;replace H:=jb_ H;obtain ⟨rfl,H⟩|⟨rfl,H⟩:=H
 ·obtain rfl:=Option.some.inj H;have p339 : 0 ≤ (x50_4 : Int):=of_decide_eq_true (by (with_reducible assumption));have q339 : x50_4 < ((rd_L2 l0_1 x26_2).length : Int):=of_decide_eq_true (by (with_reducible assumption));obtain ⟨ad339,e339,hx339_0⟩ := Kd.at_int HR335_0.out x50_4 p339 q339;cases e339;replace hx339_0:=(HB.out.cell (World.block_lt_of_cell? w _ hx339_0)).trans hx339_0;replace p339:=eq_true p339;replace q339:=eq_true q339;go_wp2_with ((with_reducible refine gate_callee (f:=53) rfl ?_);refine goesL_ (some 56) rfl rfl Try.func53 (by kernel_rfl) rfl #[.int .i64 (rd (rd_L2 l0_1 x26_2) x50_4), .int .i64 1, .int .i64 99] rfl (by (try simp only [List.map_toArray,List.map_cons,List.map_nil]);rfl) ?_;(with_reducible refine (impl_within.calls (rd (rd_L2 l0_1 x26_2) x50_4) 1 99 false _ A23.out).mono ?_);rintro e w' ⟨rfl,⟨nd,rfl⟩⟩;refine ⟨_,rfl, ?_⟩);go_ret;exact ⟨by rfl,by repeat ((with_reducible first | exact HB.out | apply pw_below_drewN))⟩
 replace H:=bn_ H;obtain ⟨t341,A25,H⟩:=H;replace H:=ib_ H;obtain ⟨rfl,H⟩|⟨rfl,H⟩:=H
 ·obtain rfl:=Option.some.inj H;have p339 : 0 ≤ (x50_4 : Int):=of_decide_eq_true (by (with_reducible assumption));have q339 : x50_4 < ((rd_L2 l0_1 x26_2).length : Int):=of_decide_eq_true (by (with_reducible assumption));obtain ⟨ad339,e339,hx339_0⟩ := Kd.at_int HR335_0.out x50_4 p339 q339;cases e339;replace hx339_0:=(HB.out.cell (World.block_lt_of_cell? w _ hx339_0)).trans hx339_0;replace p339:=eq_true p339;replace q339:=eq_true q339;go_wp2_with (first | ((with_reducible refine gate_callee (f:=53) rfl ?_);refine goesL_ (some 56) rfl rfl Try.func53 (by kernel_rfl) rfl #[.int .i64 (rd (rd_L2 l0_1 x26_2) x50_4), .int .i64 1, .int .i64 99] rfl (by (try simp only [List.map_toArray,List.map_cons,List.map_nil]);rfl) ?_;(with_reducible refine (impl_within.calls (rd (rd_L2 l0_1 x26_2) x50_4) 1 99 true _ A23.out).mono ?_);rintro e w' ⟨rfl,⟨nd,rfl⟩⟩;refine ⟨_,rfl, ?_⟩) | (at_lookup;(try (refine gate_guard (by rfl) ?_;dsimp only));refine mapSet_look (some 61) rfl rfl (.tmp 59) (.tmp 60) 70 3 4 rfl Try.underlying70 Try.underlying3 Try.underlying4 (fun _ => by kernel_rfl) (MapSet_below HM.out (by repeat (first | exact Below.refl _ _ | apply pw_below_drewN))) rfl (rd (rd_L2 l0_1 x26_2) x50_4) rfl _ (klook.of A25.out) ?_));go_ret;exact ⟨by rfl,by repeat ((with_reducible first | exact HB.out | apply pw_below_drewN))⟩
 replace H:=ie_ H;obtain ⟨c27b0,H⟩|⟨c27b0,H⟩:=H
 ·replace H:=bn_ H;obtain ⟨t344,A33,H⟩:=H;have H':=am_ H;clear H;have p339 : 0 ≤ (x50_4 : Int):=of_decide_eq_true (by (with_reducible assumption));have q339 : x50_4 < ((rd_L2 l0_1 x26_2).length : Int):=of_decide_eq_true (by (with_reducible assumption));obtain ⟨ad339,e339,hx339_0⟩ := Kd.at_int HR335_0.out x50_4 p339 q339;cases e339;replace hx339_0:=(HB.out.cell (World.block_lt_of_cell? w _ hx339_0)).trans hx339_0;replace p339:=eq_true p339;replace q339:=eq_true q339;go_wp2_with (first | ((with_reducible refine gate_callee (f:=53) rfl ?_);refine goesL_ (some 56) rfl rfl Try.func53 (by kernel_rfl) rfl #[.int .i64 (rd (rd_L2 l0_1 x26_2) x50_4), .int .i64 1, .int .i64 99] rfl (by (try simp only [List.map_toArray,List.map_cons,List.map_nil]);rfl) ?_;(with_reducible refine (impl_within.calls (rd (rd_L2 l0_1 x26_2) x50_4) 1 99 true _ A23.out).mono ?_);rintro e w' ⟨rfl,⟨nd,rfl⟩⟩;refine ⟨_,rfl, ?_⟩) | (at_lookup;(try (refine gate_guard (by rfl) ?_;dsimp only));refine mapSet_look (some 61) rfl rfl (.tmp 59) (.tmp 60) 70 3 4 rfl Try.underlying70 Try.underlying3 Try.underlying4 (fun _ => by kernel_rfl) (MapSet_below HM.out (by repeat (first | exact Below.refl _ _ | apply pw_below_drewN))) rfl (rd (rd_L2 l0_1 x26_2) x50_4) rfl _ (klook.of A25.out) ?_) | (at_mapUpdate;(try (refine gate_guard (by rfl) ?_;dsimp only));refine mapSet_put none rfl rfl (.tmp 76) (.tmp 77) (.const (.bool true)) 70 3 4 rfl Try.underlying70 Try.underlying3 Try.underlying4 (MapSet_below HM.out (by repeat (first | exact Below.refl _ _ | apply pw_below_drewN))) rfl (rd (rd_L2 l0_1 x26_2) x50_4) rfl rfl (kput.of A33.out) ?_;intro wu hMu hGu;have HMn:=am_ hMu;have HBn:=am_ (Below.grown (B:=w.heap.size) (a:=w) (by repeat ((with_reducible first | exact HB.out | apply pw_below_drewN))) hGu (Below.size (by repeat ((with_reducible first | exact HB.out | apply pw_below_drewN)))) (fun j hj => by cases hj;exact HGE.out));have BKn:=am_ (blk_grown (g:=gb332) (o:=(.cells #[(.slice A0_0 l0_0.length c0_0),(.slice (some ad335) l0_1.length c0_1)] 27 (0,0))) (by (with_reducible repeat (refine blk_drewN ?_ _));exact BK332.out) hGu (fun e_ => by have h_:=Option.some.inj e_;have g_:=HGB.out;omega));clear hMu hGu HM HB BK332;have HM:=HMn;have HB:=HBn;have BK332:=BKn;clear HMn HBn BKn));go_roundg k4;case measure =>have:=HJ1.out;have:=HK2.out;have:=HJ12.out;have:=HK4.out;omega
  case rel =>exact ⟨(t344),(wrap64 (x50_4 + 1)),(by rfl),H',⟨by have:=HJ1.out;have:=HK2.out;have:=HJ12.out;have:=HK4.out;omega⟩,⟨by exact BK332.out⟩,⟨by exact HB.out⟩,⟨MapSet_below HM.out (by repeat (exact Below.refl _ _))⟩⟩
 obtain ⟨ji28,hji28⟩ : ∃ j_ : Int,(wrap64 (x50_4 - 1)) = j_:=⟨_,rfl⟩;replace H : (if 0 ≤ (ji28) then (if (ji28) < ((rd_L2 l0_1 x26_2).length : Int) then (if (rd (rd_L2 l0_1 x26_2) x50_4) ≤ (rd (rd_L2 l0_1 x26_2) (ji28)) then (some false) else ((kput.f x3_4 (rd (rd_L2 l0_1 x26_2) x50_4)).bind fun t343 => (impl_IsValidGate.l1 k4 t343 (rd_L2 l0_1 x26_2) l0_1 (l0_1.length : Int) x26_2 (rd_L2 l0_1 x26_2) ((rd_L2 l0_1 x26_2).length : Int) (wrap64 (x50_4 + 1)) l0_0 l0_1))) else (none)) else (none)) = some r:=by (rw [hji28] at H;exact H)
 have hji28w : (IntKind.i64.wrap (x50_4 - 1)) = ji28:=(i64_w _).trans hji28;replace H:=iq_ H;obtain ⟨c29b0,H⟩:=H;replace H:=iq_ H;obtain ⟨c30b0,H⟩:=H;replace H:=id_ H;obtain ⟨c31b0,H⟩|⟨c31b0,H⟩:=H
 ·obtain rfl:=Option.some.inj H;have p339 : 0 ≤ (x50_4 : Int):=of_decide_eq_true (by (with_reducible assumption));have q339 : x50_4 < ((rd_L2 l0_1 x26_2).length : Int):=of_decide_eq_true (by (with_reducible assumption));obtain ⟨ad339,e339,hx339_0⟩ := Kd.at_int HR335_0.out x50_4 p339 q339;cases e339;replace hx339_0:=(HB.out.cell (World.block_lt_of_cell? w _ hx339_0)).trans hx339_0;replace p339:=eq_true p339;replace q339:=eq_true q339;go_wp2_with (first | ((with_reducible refine gate_callee (f:=53) rfl ?_);refine goesL_ (some 56) rfl rfl Try.func53 (by kernel_rfl) rfl #[.int .i64 (rd (rd_L2 l0_1 x26_2) x50_4), .int .i64 1, .int .i64 99] rfl (by (try simp only [List.map_toArray,List.map_cons,List.map_nil]);rfl) ?_;(with_reducible refine (impl_within.calls (rd (rd_L2 l0_1 x26_2) x50_4) 1 99 true _ A23.out).mono ?_);rintro e w' ⟨rfl,⟨nd,rfl⟩⟩;refine ⟨_,rfl, ?_⟩) | (at_lookup;(try (refine gate_guard (by rfl) ?_;dsimp only));refine mapSet_look (some 61) rfl rfl (.tmp 59) (.tmp 60) 70 3 4 rfl Try.underlying70 Try.underlying3 Try.underlying4 (fun _ => by kernel_rfl) (MapSet_below HM.out (by repeat (first | exact Below.refl _ _ | apply pw_below_drewN))) rfl (rd (rd_L2 l0_1 x26_2) x50_4) rfl _ (klook.of A25.out) ?_;have p342 : 0 ≤ ((ji28) : Int):=of_decide_eq_true (by (with_reducible assumption));have q342 : (ji28) < ((rd_L2 l0_1 x26_2).length : Int):=of_decide_eq_true (by (with_reducible assumption));obtain ⟨ad342,e342,hx342_0⟩ := Kd.at_int HR335_0.out (ji28) p342 q342;obtain rfl : ad339 = ad342:=(by injection e342);replace hx342_0:=(HB.out.cell (World.block_lt_of_cell? w _ hx342_0)).trans hx342_0;replace p342:=eq_true p342;replace q342:=eq_true q342));go_ret;exact ⟨by rfl,by repeat ((with_reducible first | exact HB.out | apply pw_below_drewN))⟩
 replace H:=bn_ H;obtain ⟨t343,A32,H⟩:=H;have H':=am_ H;clear H;have p339 : 0 ≤ (x50_4 : Int):=of_decide_eq_true (by (with_reducible assumption));have q339 : x50_4 < ((rd_L2 l0_1 x26_2).length : Int):=of_decide_eq_true (by (with_reducible assumption));obtain ⟨ad339,e339,hx339_0⟩ := Kd.at_int HR335_0.out x50_4 p339 q339;cases e339;replace hx339_0:=(HB.out.cell (World.block_lt_of_cell? w _ hx339_0)).trans hx339_0;replace p339:=eq_true p339;replace q339:=eq_true q339;go_wp2_with (first | ((with_reducible refine gate_callee (f:=53) rfl ?_);refine goesL_ (some 56) rfl rfl Try.func53 (by kernel_rfl) rfl #[.int .i64 (rd (rd_L2 l0_1 x26_2) x50_4), .int .i64 1, .int .i64 99] rfl (by (try simp only [List.map_toArray,List.map_cons,List.map_nil]);rfl) ?_;(with_reducible refine (impl_within.calls (rd (rd_L2 l0_1 x26_2) x50_4) 1 99 true _ A23.out).mono ?_);rintro e w' ⟨rfl,⟨nd,rfl⟩⟩;refine ⟨_,rfl, ?_⟩) | (at_lookup;(try (refine gate_guard (by rfl) ?_;dsimp only));refine mapSet_look (some 61) rfl rfl (.tmp 59) (.tmp 60) 70 3 4 rfl Try.underlying70 Try.underlying3 Try.underlying4 (fun _ => by kernel_rfl) (MapSet_below HM.out (by repeat (first | exact Below.refl _ _ | apply pw_below_drewN))) rfl (rd (rd_L2 l0_1 x26_2) x50_4) rfl _ (klook.of A25.out) ?_;have p342 : 0 ≤ ((ji28) : Int):=of_decide_eq_true (by (with_reducible assumption));have q342 : (ji28) < ((rd_L2 l0_1 x26_2).length : Int):=of_decide_eq_true (by (with_reducible assumption));obtain ⟨ad342,e342,hx342_0⟩ := Kd.at_int HR335_0.out (ji28) p342 q342;obtain rfl : ad339 = ad342:=(by injection e342);replace hx342_0:=(HB.out.cell (World.block_lt_of_cell? w _ hx342_0)).trans hx342_0;replace p342:=eq_true p342;replace q342:=eq_true q342) | (at_mapUpdate;(try (refine gate_guard (by rfl) ?_;dsimp only));refine mapSet_put none rfl rfl (.tmp 76) (.tmp 77) (.const (.bool true)) 70 3 4 rfl Try.underlying70 Try.underlying3 Try.underlying4 (MapSet_below HM.out (by repeat (first | exact Below.refl _ _ | apply pw_below_drewN))) rfl (rd (rd_L2 l0_1 x26_2) x50_4) rfl rfl (kput.of A32.out) ?_;intro wu hMu hGu;have HMn:=am_ hMu;have HBn:=am_ (Below.grown (B:=w.heap.size) (a:=w) (by repeat ((with_reducible first | exact HB.out | apply pw_below_drewN))) hGu (Below.size (by repeat ((with_reducible first | exact HB.out | apply pw_below_drewN)))) (fun j hj => by cases hj;exact HGE.out));have BKn:=am_ (blk_grown (g:=gb332) (o:=(.cells #[(.slice A0_0 l0_0.length c0_0),(.slice (some ad335) l0_1.length c0_1)] 27 (0,0))) (by (with_reducible repeat (refine blk_drewN ?_ _));exact BK332.out) hGu (fun e_ => by have h_:=Option.some.inj e_;have g_:=HGB.out;omega));clear hMu hGu HM HB BK332;have HM:=HMn;have HB:=HBn;have BK332:=BKn;clear HMn HBn BKn));go_roundg k4;case measure =>have:=HJ1.out;have:=HK2.out;have:=HJ12.out;have:=HK4.out;omega
 case rel =>exact ⟨(t343),(wrap64 (x50_4 + 1)),(by rfl),H',⟨by have:=HJ1.out;have:=HK2.out;have:=HJ12.out;have:=HK4.out;omega⟩,⟨by exact BK332.out⟩,⟨by exact HB.out⟩,⟨MapSet_below HM.out (by repeat (exact Below.refl _ _))⟩⟩

/-! ### impl_isGateFor_1: function 75 -/
def impl_isGateFor_1.f (a0 : Int) (l1 : List Int) (l2 : List (List Int)) : Option (Bool):=(impl_within.f a0 0 (wrap64 ((l2.length : Int) - 1))).bind fun t345 => (some (!t345))
set_option maxHeartbeats 8000000 in
set_option maxRecDepth 100000 in
theorem impl_isGateFor_1.calls (a0 : Int) (A1 : Option Addr) (c1 : Nat) (l1 : List Int) (A2 : Option Addr) (c2 : Nat) (l2 : List (List Int)) {G1 : Nat} (r : Bool) (w : World) (hr1 : Kd.C (Kd.int .i64) w A1 l1.length l1) (hc1 : l1.length ≤ c1) (hr2 : Kd.C (Kd.slice 3 (Kd.int .i64)) w A2 l2.length l2) (hc2 : l2.length ≤ c2) (hg1 : w.cell? ⟨G1,0,none⟩ = some (.slice A1 l1.length c1)) (hg2 : w.cell? ⟨G1,1,none⟩ = some (.slice A2 l2.length c2)) (h : impl_isGateFor_1.f a0 l1 l2 = some r) :
  Calls Try.prog 75 #[.int .i64 a0, .pointer (some ⟨G1,0,none⟩)] w fun e w' => e = .returned (.bool r) ∧ Below w.heap.size w w':=by
 have HR1:=am_ hr1;have HC1:=am_ hc1;clear hr1 hc1;have HR2:=am_ hr2;have HC2:=am_ hc2;clear hr2 hc2;have HB:=am_ (Below.refl w.heap.size w);have H : ((impl_within.f a0 0 (wrap64 ((l2.length : Int) - 1))).bind fun t345 => (some (!t345))) = some r:=h;clear h;replace H:=bn_ H;obtain ⟨t345,A4,H⟩:=H;obtain rfl:=Option.some.inj H;go_enter Try.func75,Try.ntmps75;go_wp2_with ((with_reducible refine gate_callee (f:=53) rfl ?_);refine goesL_ (some 9) rfl rfl Try.func53 (by kernel_rfl) rfl #[.int .i64 a0, .int .i64 0, .int .i64 (wrap64 ((l2.length : Int) - 1))] rfl (by (try simp only [List.map_toArray,List.map_cons,List.map_nil]);rfl) ?_;(with_reducible refine (impl_within.calls a0 0 (wrap64 ((l2.length : Int) - 1)) t345 _ A4.out).mono ?_);rintro e w' ⟨rfl,⟨nd,rfl⟩⟩;refine ⟨_,rfl, ?_⟩);go_ret;exact ⟨by rfl,by repeat ((with_reducible first | exact HB.out | apply pw_below_drewN))⟩

/-! ### slices_IndexFunc_int_87: function 87 -/
def slices_IndexFunc_int_87.l0 : Nat → List Int → Int → Int → List Int → List (List Int) → Option (Int)
 | 0,_,_,_,_,_ => none
 | k + 1,x0,x7,x8,x902000,x902001 => if x8 < x7 then (if 0 ≤ x8 then (if x8 < (x0.length : Int) then ((impl_isGateFor_1.f (rd x0 x8) x902000 x902001).bind fun t347 => (if t347 = true then (some x8) else (slices_IndexFunc_int_87.l0 k x0 x7 (wrap64 (x8 + 1)) x902000 x902001))) else (none)) else (none)) else (some (-1))
def slices_IndexFunc_int_87.f (k : Nat) (l0 : List Int) (l1_0 : List Int) (l1_1 : List (List Int)) : Option (Int):=slices_IndexFunc_int_87.l0 k l0 (l0.length : Int) 0 l1_0 l1_1
theorem slices_IndexFunc_int_87.mono_l : ∀ k,(∀ y0 y1 y2 y3 y4,LeO (slices_IndexFunc_int_87.l0 k y0 y1 y2 y3 y4) (slices_IndexFunc_int_87.l0 (k + 1) y0 y1 y2 y3 y4))
 | 0 => fun _ _ _ _ _ r h => by simp [slices_IndexFunc_int_87.l0] at h
 | k + 1 => by
  have ih0:=slices_IndexFunc_int_87.mono_l k
  ·intro y0 y1 y2 y3 y4
   unfold slices_IndexFunc_int_87.l0
   repeat' first
   | (with_reducible exact ih0 _ _ _ _ _)
   | (with_reducible exact LeO.refl _)
   | (with_reducible exact LeO.none _)
   | (with_reducible refine LeO.ite ?_ ?_)
   | (with_reducible refine LeO.bind ?_ (fun _ => ?_))
   | exact ih0 _ _ _ _ _
   | exact LeO.none _
   | refine LeO.ite ?_ ?_
   | refine LeO.bind ?_ (fun _ => ?_)
theorem slices_IndexFunc_int_87.mono : ∀ a0 a1 a2 k,LeO (slices_IndexFunc_int_87.f k a0 a1 a2) (slices_IndexFunc_int_87.f (k + 1) a0 a1 a2):=by
 intro a0 a1 a2 k;have ih0:=slices_IndexFunc_int_87.mono_l k
 unfold slices_IndexFunc_int_87.f
 repeat' first
   | (with_reducible exact ih0 _ _ _ _ _)
   | (with_reducible exact LeO.refl _)
   | (with_reducible exact LeO.none _)
   | (with_reducible refine LeO.ite ?_ ?_)
   | (with_reducible refine LeO.bind ?_ (fun _ => ?_))
   | exact ih0 _ _ _ _ _
   | exact LeO.none _
   | refine LeO.ite ?_ ?_
   | refine LeO.bind ?_ (fun _ => ?_)
set_option maxHeartbeats 8000000 in
set_option maxRecDepth 100000 in
theorem slices_IndexFunc_int_87.calls (k : Nat) (A0 : Option Addr) (c0 : Nat) (l0 : List Int) (A1_0 : Option Addr) (c1_0 : Nat) (l1_0 : List Int) (A1_1 : Option Addr) (c1_1 : Nat) (l1_1 : List (List Int)) {G1_0 : Nat} (r : Int) (w : World) (hr0 : Kd.C (Kd.int .i64) w A0 l0.length l0) (hc0 : l0.length ≤ c0) (hr1_0 : Kd.C (Kd.int .i64) w A1_0 l1_0.length l1_0) (hc1_0 : l1_0.length ≤ c1_0) (hr1_1 : Kd.C (Kd.slice 3 (Kd.int .i64)) w A1_1 l1_1.length l1_1) (hc1_1 : l1_1.length ≤ c1_1) (hg1_0 : w.cell? ⟨G1_0,0,none⟩ = some (.slice A1_0 l1_0.length c1_0)) (hg1_1 : w.cell? ⟨G1_0,1,none⟩ = some (.slice A1_1 l1_1.length c1_1)) (h : slices_IndexFunc_int_87.f k l0 l1_0 l1_1 = some r) :
  Calls Try.prog 87 #[.slice A0 l0.length c0,(.func (.func 75) #[] #[.pointer (some ⟨G1_0,0,none⟩)])] w fun e w' => e = .returned (.int .i64 r) ∧ Below w.heap.size w w':=by
 have HR0:=am_ hr0;have HC0:=am_ hc0;clear hr0 hc0;have HR1_0:=am_ hr1_0;have HC1_0:=am_ hc1_0;clear hr1_0 hc1_0;have HR1_1:=am_ hr1_1;have HC1_1:=am_ hc1_1;clear hr1_1 hc1_1;have HB:=am_ (Below.refl w.heap.size w);have H : (slices_IndexFunc_int_87.l0 k l0 (l0.length : Int) 0 l1_0 l1_1) = some r:=h;clear h;have H':=am_ H;clear H;go_enter Try.func87,Try.ntmps87;go_wp2;go_loopg [8] k (fun kq v8 w' => ∃ (x8_1 : Int),v8 = .int .i64 x8_1 ∧ Aside0 (slices_IndexFunc_int_87.l0 kq l0 (l0.length : Int) x8_1 l1_0 l1_1 = some r) ∧ Aside0 (kq ≤ k) ∧ Aside0 (Below w.heap.size w w'));case atStart =>exact ⟨(0),(by rfl),H',⟨Nat.le_refl _⟩,⟨by exact HB.out⟩⟩
 case round =>
 clear H';(try clear c1);(try clear p2);obtain ⟨x8_1,rfl,HA,HK1,HB⟩ := hrel
 cases gk with
 | zero =>exact absurd HA.out (by simp [slices_IndexFunc_int_87.l0])
 | succ k1 =>
 have H:=HA.out;clear HA;simp only [slices_IndexFunc_int_87.l0] at H;replace H:=ie_ H;obtain ⟨c3b0,H⟩|⟨c3b0,H⟩:=H
 ·obtain rfl:=Option.some.inj H;go_wp2;go_ret;exact ⟨by rfl,by exact HB.out⟩
 replace H:=iq_ H;obtain ⟨c4b0,H⟩:=H;replace H:=iq_ H;obtain ⟨c5b0,H⟩:=H;replace H:=bn_ H;obtain ⟨t347,A6,H⟩:=H;replace H:=ib_ H;obtain ⟨rfl,H⟩|⟨rfl,H⟩:=H
 ·obtain rfl:=Option.some.inj H;have p346 : 0 ≤ (x8_1 : Int):=of_decide_eq_true (by (with_reducible assumption));have q346 : x8_1 < (l0.length : Int):=of_decide_eq_true (by (with_reducible assumption));obtain ⟨ad346,e346,hx346_0⟩ := Kd.at_int HR0.out x8_1 p346 q346;cases e346;replace hx346_0:=(HB.out.cell (World.block_lt_of_cell? w _ hx346_0)).trans hx346_0;replace p346:=eq_true p346;replace q346:=eq_true q346;go_wp2_with ((with_reducible refine gateV_ (x := .tmp 11) rfl ?_);refine goesD_ (some 16) rfl rfl Try.func75 (by kernel_rfl) rfl #[.pointer (some ⟨G1_0,0,none⟩)] #[.int .i64 (rd l0 x8_1)] #[.int .i64 (rd l0 x8_1), .pointer (some ⟨G1_0,0,none⟩)] rfl rfl (by (try simp only [List.map_toArray,List.map_cons,List.map_nil]);rfl) rfl ?_;(with_reducible refine (impl_isGateFor_1.calls (hg1:=?sg0) (hg2:=?sg1) (rd l0 x8_1) A1_0 c1_0 l1_0 A1_1 c1_1 l1_1 true _ ?side1 ?side2 ?side3 ?side4 A6.out).mono ?_);(case sg0 => exact (by exact (Below.cell (by exact HB.out) (World.block_lt_of_cell? w _ hg1_0)).trans hg1_0));(case sg1 => exact (by exact (Below.cell (by exact HB.out) (World.block_lt_of_cell? w _ hg1_1)).trans hg1_1));(case side1 => repeat (exact (Kd.C_below HR1_0.out HB.out)));(case side2 => exact HC1_0.out);(case side3 => repeat (exact (Kd.C_below HR1_1.out HB.out)));(case side4 => exact HC1_1.out);rintro e w8 ⟨rfl,hb⟩;refine ⟨_,rfl, ?_⟩;replace HB:=am_ (below_step (by exact HB.out) hb);(try clear hb));go_ret;exact ⟨by rfl,by exact HB.out⟩
 have H':=am_ H;clear H;have p346 : 0 ≤ (x8_1 : Int):=of_decide_eq_true (by (with_reducible assumption));have q346 : x8_1 < (l0.length : Int):=of_decide_eq_true (by (with_reducible assumption));obtain ⟨ad346,e346,hx346_0⟩ := Kd.at_int HR0.out x8_1 p346 q346;cases e346;replace hx346_0:=(HB.out.cell (World.block_lt_of_cell? w _ hx346_0)).trans hx346_0;replace p346:=eq_true p346;replace q346:=eq_true q346;go_wp2_with ((with_reducible refine gateV_ (x := .tmp 11) rfl ?_);refine goesD_ (some 16) rfl rfl Try.func75 (by kernel_rfl) rfl #[.pointer (some ⟨G1_0,0,none⟩)] #[.int .i64 (rd l0 x8_1)] #[.int .i64 (rd l0 x8_1), .pointer (some ⟨G1_0,0,none⟩)] rfl rfl (by (try simp only [List.map_toArray,List.map_cons,List.map_nil]);rfl) rfl ?_;(with_reducible refine (impl_isGateFor_1.calls (hg1:=?sg0) (hg2:=?sg1) (rd l0 x8_1) A1_0 c1_0 l1_0 A1_1 c1_1 l1_1 false _ ?side1 ?side2 ?side3 ?side4 A6.out).mono ?_);(case sg0 => exact (by exact (Below.cell (by exact HB.out) (World.block_lt_of_cell? w _ hg1_0)).trans hg1_0));(case sg1 => exact (by exact (Below.cell (by exact HB.out) (World.block_lt_of_cell? w _ hg1_1)).trans hg1_1));(case side1 => repeat (exact (Kd.C_below HR1_0.out HB.out)));(case side2 => exact HC1_0.out);(case side3 => repeat (exact (Kd.C_below HR1_1.out HB.out)));(case side4 => exact HC1_1.out);rintro e w9 ⟨rfl,hb⟩;refine ⟨_,rfl, ?_⟩;replace HB:=am_ (below_step (by exact HB.out) hb);(try clear hb));go_roundg k1;case measure =>have:=HK1.out;omega
 case rel =>exact ⟨(wrap64 (x8_1 + 1)),(by rfl),H',⟨by have:=HK1.out;omega⟩,⟨by exact HB.out⟩⟩

/-! ### slices_ContainsFunc_int: function 74 -/
def slices_ContainsFunc_int.f (k : Nat) (l0 : List Int) (l1_0 : List Int) (l1_1 : List (List Int)) : Option (Bool):=(slices_IndexFunc_int_87.f k l0 l1_0 l1_1).bind fun t348 => (some (decide (t348 ≥ 0)))
theorem slices_ContainsFunc_int.mono : ∀ a0 a1 a2 k,LeO (slices_ContainsFunc_int.f k a0 a1 a2) (slices_ContainsFunc_int.f (k + 1) a0 a1 a2):=by
 intro a0 a1 a2 k
 unfold slices_ContainsFunc_int.f
 repeat' first
   | (with_reducible exact slices_IndexFunc_int_87.mono _ _ _ _)
   | (with_reducible exact LeO.refl _)
   | (with_reducible exact LeO.none _)
   | (with_reducible refine LeO.ite ?_ ?_)
   | (with_reducible refine LeO.bind ?_ (fun _ => ?_))
   | exact slices_IndexFunc_int_87.mono _ _ _ _
   | exact LeO.none _
   | refine LeO.ite ?_ ?_
   | refine LeO.bind ?_ (fun _ => ?_)
set_option maxHeartbeats 8000000 in
set_option maxRecDepth 100000 in
theorem slices_ContainsFunc_int.calls (k : Nat) (A0 : Option Addr) (c0 : Nat) (l0 : List Int) (A1_0 : Option Addr) (c1_0 : Nat) (l1_0 : List Int) (A1_1 : Option Addr) (c1_1 : Nat) (l1_1 : List (List Int)) {G1_0 : Nat} (r : Bool) (w : World) (hr0 : Kd.C (Kd.int .i64) w A0 l0.length l0) (hc0 : l0.length ≤ c0) (hr1_0 : Kd.C (Kd.int .i64) w A1_0 l1_0.length l1_0) (hc1_0 : l1_0.length ≤ c1_0) (hr1_1 : Kd.C (Kd.slice 3 (Kd.int .i64)) w A1_1 l1_1.length l1_1) (hc1_1 : l1_1.length ≤ c1_1) (hg1_0 : w.cell? ⟨G1_0,0,none⟩ = some (.slice A1_0 l1_0.length c1_0)) (hg1_1 : w.cell? ⟨G1_0,1,none⟩ = some (.slice A1_1 l1_1.length c1_1)) (h : slices_ContainsFunc_int.f k l0 l1_0 l1_1 = some r) :
  Calls Try.prog 74 #[.slice A0 l0.length c0,(.func (.func 75) #[] #[.pointer (some ⟨G1_0,0,none⟩)])] w fun e w' => e = .returned (.bool r) ∧ Below w.heap.size w w':=by
 have HR0:=am_ hr0;have HC0:=am_ hc0;clear hr0 hc0;have HR1_0:=am_ hr1_0;have HC1_0:=am_ hc1_0;clear hr1_0 hc1_0;have HR1_1:=am_ hr1_1;have HC1_1:=am_ hc1_1;clear hr1_1 hc1_1;have HB:=am_ (Below.refl w.heap.size w);have H : ((slices_IndexFunc_int_87.f k l0 l1_0 l1_1).bind fun t348 => (some (decide (t348 ≥ 0)))) = some r:=h;clear h;replace H:=bn_ H;obtain ⟨t348,A3,H⟩:=H;obtain rfl:=Option.some.inj H;go_enter Try.func74,Try.ntmps74;go_wp2_with ((with_reducible refine gate_callee (f:=87) rfl ?_);refine goesL_ (some 7) rfl rfl Try.func87 (by kernel_rfl) rfl #[.slice A0 l0.length c0,(.func (.func 75) #[] #[.pointer (some ⟨G1_0,0,none⟩)])] rfl (by (try simp only [List.map_toArray,List.map_cons,List.map_nil]);rfl) ?_;(with_reducible refine (slices_IndexFunc_int_87.calls (hg1_0:=?sg0) (hg1_1:=?sg1) k _ _ l0 A1_0 c1_0 l1_0 A1_1 c1_1 l1_1 t348 _ ?side1 ?side2 ?side3 ?side4 ?side5 ?side6 A3.out).mono ?_);(case sg0 => exact (by exact hg1_0));(case sg1 => exact (by exact hg1_1));(case side1 => repeat (exact HR0.out));(case side2 => exact HC0.out);(case side3 => repeat (exact HR1_0.out));(case side4 => exact HC1_0.out);(case side5 => repeat (exact HR1_1.out));(case side6 => exact HC1_1.out);rintro e w4 ⟨rfl,hb⟩;refine ⟨_,rfl, ?_⟩;replace HB:=am_ (below_step (by exact HB.out) hb);(try clear hb));go_ret;exact ⟨by rfl,by exact HB.out⟩

end Go.Proofs.Ytglfjaaaegfdnaa.PFnBooking
