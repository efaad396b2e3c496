-- Written by a program of this session, over the kit's print (wip/xprint.py)
import Derived.Test.YtglfjaaaegfdnaaPFnBookingx0
import Derived.Test.YtglfjaaaegfdnaaPFnBookingx1
import Derived.Test.YtglfjaaaegfdnaaPFnBookingx4
import Derived.Test.YtglfjaaaegfdnaaPFnBookingx9
import Derived.Test.YtglfjaaaegfdnaaPFnBookingx10
import Derived.Test.YtglfjaaaegfdnaaPFnBookingx11
namespace Go.Proofs.Ytglfjaaaegfdnaa.PFnBooking
open Go.RowKit Go.Proofs.YtglfjaaaegfdnaaW.PrintWords Go.Proofs.YtglfjaaaegfdnaaW.PrintLast Go.Proofs.YtglfjaaaegfdnaaW.PrintMore
attribute [local go_sem] max2_int min2_int max_two min_two max_three min_three max_four min_four   -- for this text's walks alone
set_option linter.unusedVariables false
set_option linter.unusedSimpArgs false

/-! ### spec_l18Slot: function 47 -/
def spec_l18Slot.f (l0_0 : List Int) (l0_1 : List (List Int)) (a1 : Int) : Option (Bool):=(spec_l1In.f a1 0 (wrap64 ((l0_1.length : Int) - 1))).bind fun t411 => (some t411)
set_option maxHeartbeats 8000000 in
set_option maxRecDepth 100000 in
theorem spec_l18Slot.calls (A0_0 : Option Addr) (c0_0 : Nat) (l0_0 : List Int) (A0_1 : Option Addr) (c0_1 : Nat) (l0_1 : List (List Int)) (a1 : Int) (r : Bool) (w : World) (hr0_0 : Kd.C (Kd.int .i64) w A0_0 l0_0.length l0_0) (hc0_0 : l0_0.length ≤ c0_0) (hr0_1 : Kd.C (Kd.slice 3 (Kd.int .i64)) w A0_1 l0_1.length l0_1) (hc0_1 : l0_1.length ≤ c0_1) (h : spec_l18Slot.f l0_0 l0_1 a1 = some r) :
  Calls Try.prog 47 #[.agg #[.slice A0_0 l0_0.length c0_0, .slice A0_1 l0_1.length c0_1], .int .i64 a1] w fun e w' => e = .returned (.bool r) ∧ Below w.heap.size w w':=by
 have hu27:=Try.underlying27;have HR0_0:=am_ hr0_0;have HC0_0:=am_ hc0_0;clear hr0_0 hc0_0;have HR0_1:=am_ hr0_1;have HC0_1:=am_ hc0_1;clear hr0_1 hc0_1;have HB:=am_ (Below.refl w.heap.size w);have H : ((spec_l1In.f a1 0 (wrap64 ((l0_1.length : Int) - 1))).bind fun t411 => (some t411)) = some r:=h;clear h;replace H:=bn_ H;obtain ⟨t411,A3,H⟩:=H;obtain rfl:=Option.some.inj H;go_enter Try.func47,Try.ntmps47;go_wp2_with (first | ((with_reducible refine gate_dst (N:=2) rfl ?_);refine box_event ?hg (N:=2) ?hd (cs:=#[.slice A0_0 l0_0.length c0_0, .slice A0_1 l0_1.length c0_1]) (t:=27) ?hr ?_;(case hd => rfl);(case hg => rfl);(case hr => (go_simp;done));intro gb410 hg w4 hbox hb;have BK410:=am_ hbox;have GW410:=am_ (ge_ hg (by exact HB.out));have GE410:=am_ (ge_ hg (by exact HB.out));replace HB:=am_ (below_step (by exact HB.out) hb);clear hb hbox hg;have hcz5_0:=c2_0 BK410.out;have hcz5_1:=c2_1 BK410.out;have hfz5_0:=blk_frozen BK410.out 0;have hfz5_1:=blk_frozen BK410.out 1) | ((with_reducible refine gate_callee (f:=81) rfl ?_);refine goesL_ (some 10) rfl rfl Try.func81 (by kernel_rfl) rfl #[.int .i64 a1, .int .i64 0, .int .i64 (wrap64 ((l0_1.length : Int) - 1))] rfl (by (try simp only [List.map_toArray,List.map_cons,List.map_nil]);rfl) ?_;(with_reducible refine (spec_l1In.calls a1 0 (wrap64 ((l0_1.length : Int) - 1)) t411 _ A3.out).mono ?_);rintro e w' ⟨rfl,⟨nd,rfl⟩⟩;refine ⟨_,rfl, ?_⟩));go_ret;exact ⟨by rfl,by repeat ((with_reducible first | exact HB.out | apply pw_below_drewN))⟩

/-! ### spec_BookSlot: function 9 -/
def spec_BookSlot.j0 : Nat → Int → Int → Bool → List Int → List (List Int) → Option (List Int × (List (List Int)) × Bool)
 | 0,_,_,_,_,_ => none
 | k + 1,x1,x2,x23,x413000,x413001 => if x23 = true then (some (([] : List Int),([] : List (List Int)),false)) else ((spec_l18Book.f k x413000 x413001 x1 x2).bind fun bt417 => ((spec_l18Good.f k bt417.1 bt417.2).bind fun t424 => (if t424 = true then (some (bt417.1,bt417.2,true)) else (some (([] : List Int),([] : List (List Int)),false)))))
def spec_BookSlot.f (k : Nat) (l0_0 : List Int) (l0_1 : List (List Int)) (a1 : Int) (a2 : Int) : Option (List Int × (List (List Int)) × Bool):=(spec_l18Good.f k l0_0 l0_1).bind fun t414 => (if t414 = true then ((spec_l18Slot.f l0_0 l0_1 a2).bind fun t415 => (if t415 = true then ((spec_l18Find.f k l0_0 l0_1 a1).bind fun t416 => (spec_BookSlot.j0 k a1 a2 (decide (t416 ≥ 0)) l0_0 l0_1)) else (spec_BookSlot.j0 k a1 a2 true l0_0 l0_1))) else (spec_BookSlot.j0 k a1 a2 true l0_0 l0_1))
theorem spec_BookSlot.mono_l : ∀ k,(∀ y0 y1 y2 y3 y4,LeO (spec_BookSlot.j0 k y0 y1 y2 y3 y4) (spec_BookSlot.j0 (k + 1) y0 y1 y2 y3 y4))
 | 0 => fun _ _ _ _ _ r h => by simp [spec_BookSlot.j0] at h
 | k + 1 => by
  have ih0:=spec_BookSlot.mono_l k
  ·intro y0 y1 y2 y3 y4
   unfold spec_BookSlot.j0
   repeat' first
   | (with_reducible exact ih0 _ _ _ _ _)
   | (with_reducible exact spec_l18Book.mono _ _ _ _ _)
   | (with_reducible exact spec_l18Find.mono _ _ _ _)
   | (with_reducible exact spec_l18Good.mono _ _ _)
   | (with_reducible exact LeO.refl _)
   | (with_reducible exact LeO.none _)
   | (with_reducible refine LeO.ite ?_ ?_)
   | (with_reducible refine LeO.bind ?_ (fun _ => ?_))
   | exact ih0 _ _ _ _ _
   | exact spec_l18Book.mono _ _ _ _ _
   | exact spec_l18Find.mono _ _ _ _
   | exact spec_l18Good.mono _ _ _
   | exact LeO.none _
   | refine LeO.ite ?_ ?_
   | refine LeO.bind ?_ (fun _ => ?_)
theorem spec_BookSlot.mono : ∀ a0 a1 a2 a3 k,LeO (spec_BookSlot.f k a0 a1 a2 a3) (spec_BookSlot.f (k + 1) a0 a1 a2 a3):=by
 intro a0 a1 a2 a3 k;have ih0:=spec_BookSlot.mono_l k
 unfold spec_BookSlot.f
 repeat' first
   | (with_reducible exact ih0 _ _ _ _ _)
   | (with_reducible exact spec_l18Book.mono _ _ _ _ _)
   | (with_reducible exact spec_l18Find.mono _ _ _ _)
   | (with_reducible exact spec_l18Good.mono _ _ _)
   | (with_reducible exact LeO.refl _)
   | (with_reducible exact LeO.none _)
   | (with_reducible refine LeO.ite ?_ ?_)
   | (with_reducible refine LeO.bind ?_ (fun _ => ?_))
   | exact ih0 _ _ _ _ _
   | exact spec_l18Book.mono _ _ _ _ _
   | exact spec_l18Find.mono _ _ _ _
   | exact spec_l18Good.mono _ _ _
   | exact LeO.none _
   | refine LeO.ite ?_ ?_
   | refine LeO.bind ?_ (fun _ => ?_)
set_option maxHeartbeats 8000000 in
set_option maxRecDepth 100000 in
theorem spec_BookSlot.calls (k : Nat) (A0_0 : Option Addr) (c0_0 : Nat) (l0_0 : List Int) (A0_1 : Option Addr) (c0_1 : Nat) (l0_1 : List (List Int)) (a1 : Int) (a2 : Int) (r1 : List Int) (r2 : List (List Int)) (r3 : Bool) (w : World) (hr0_0 : Kd.C (Kd.int .i64) w A0_0 l0_0.length l0_0) (hc0_0 : l0_0.length ≤ c0_0) (hr0_1 : Kd.C (Kd.slice 3 (Kd.int .i64)) w A0_1 l0_1.length l0_1) (hc0_1 : l0_1.length ≤ c0_1) (h : spec_BookSlot.f k l0_0 l0_1 a1 a2 = some (r1,r2,r3)) :
  Calls Try.prog 9 #[.agg #[.slice A0_0 l0_0.length c0_0, .slice A0_1 l0_1.length c0_1], .int .i64 a1, .int .i64 a2] w fun e w' => ∃ v0_ v1_ : Value,e = .returned (.tuple #[.agg #[v0_,v1_], .bool r3]) ∧ Kd.R (Kd.int .i64) 3 w' w.heap.size (fun _ => True) v0_ r1 ∧ Kd.S (Kd.slice 3 (Kd.int .i64)) 24 w' w.heap.size (fun k_ => some k_ ≠ (v0_ : Value).ownBlock) v1_ r2 ∧ Below w.heap.size w w':=by
 have hu27:=Try.underlying27;have HR0_0:=am_ hr0_0;have HC0_0:=am_ hc0_0;clear hr0_0 hc0_0;have HR0_1:=am_ hr0_1;have HC0_1:=am_ hc0_1;clear hr0_1 hc0_1;have HB:=am_ (Below.refl w.heap.size w);have H : ((spec_l18Good.f k l0_0 l0_1).bind fun t414 => (if t414 = true then ((spec_l18Slot.f l0_0 l0_1 a2).bind fun t415 => (if t415 = true then ((spec_l18Find.f k l0_0 l0_1 a1).bind fun t416 => (spec_BookSlot.j0 k a1 a2 (decide (t416 ≥ 0)) l0_0 l0_1)) else (spec_BookSlot.j0 k a1 a2 true l0_0 l0_1))) else (spec_BookSlot.j0 k a1 a2 true l0_0 l0_1))) = some (r1,r2,r3):=h;clear h;have HC4:=am_ H;clear H;go_enter Try.func9,Try.ntmps9;go_upto_region 1 with (first | ((with_reducible refine gate_dst (N:=3) rfl ?_);refine box_event ?hg (N:=3) ?hd (cs:=#[.slice A0_0 l0_0.length c0_0, .slice A0_1 l0_1.length c0_1]) (t:=27) ?hr ?_;(case hd => rfl);(case hg => rfl);(case hr => (go_simp;done));intro gb412 hg w5 hbox hb;have BK412:=am_ hbox;have GW412:=am_ (ge_ hg (by exact HB.out));have GE412:=am_ (ge_ hg (by exact HB.out));replace HB:=am_ (below_step (by exact HB.out) hb);clear hb hbox hg) | ((with_reducible refine gate_dst (N:=6) rfl ?_);refine box_event ?hg (N:=6) ?hd (cs:=#[.slice none 0 0, .slice none 0 0]) (t:=27) ?hr ?_;(case hd => rfl);(case hg => rfl);(case hr => (go_simp;done));intro gb413 hg w6 hbox hb;have BK413:=am_ hbox;have GW413:=am_ (ge_ hg (by exact HB.out));have GE413:=am_ (ge_ hg (by exact HB.out));replace HB:=am_ (below_step (by exact HB.out) hb);have NB412_413:=am_ (nl_ hg (by exact BK412.out));have NB413_412:=am_ (ng_ hg (by exact BK412.out));replace BK412:=am_ (blk_below (by exact BK412.out) hb);clear hb hbox hg));go_cut [23] (fun v23 wc => ∃ (kq : Nat) (x23_3 : Bool),v23 = .bool x23_3 ∧ Aside0 (spec_BookSlot.j0 kq a1 a2 x23_3 l0_0 l0_1 = some (r1,r2,r3)) ∧ Aside0 (kq ≤ k) ∧ Aside0 (wc.heap[gb412]? = some (.cells #[(.slice A0_0 l0_0.length c0_0),(.slice A0_1 l0_1.length c0_1)] 27 (0,0))) ∧ Aside0 (wc.heap[gb413]? = some (.cells #[(.slice none 0 0),(.slice none 0 0)] 27 (0,0))) ∧ Aside0 (Below w.heap.size w wc))
 case first =>
  have H:=HC4.out;clear HC4;replace H:=bn_ H;obtain ⟨t414,A7,H⟩:=H;replace H:=jb_ H;obtain ⟨rfl,H⟩|⟨rfl,H⟩:=H
  ·have H':=am_ H;clear H;have hnb24:=NB412_413.out;have hnc24:=NB413_412.out;have hcz25_0:=c2_0 BK412.out;have hcz25_1:=c2_1 BK412.out;have hfz25_0:=blk_frozen BK412.out 0;have hfz25_1:=blk_frozen BK412.out 1;go_wp2_with ((with_reducible refine gate_callee (f:=46) rfl ?_);refine goesL_ (some 10) rfl rfl Try.func46 (by kernel_rfl) rfl #[.agg #[.slice A0_0 l0_0.length c0_0, .slice A0_1 l0_1.length c0_1]] rfl (by (try simp only [List.map_toArray,List.map_cons,List.map_nil]);rfl) ?_;(with_reducible refine (spec_l18Good.calls k _ _ l0_0 _ _ l0_1 false _ ?side1 ?side2 ?side3 ?side4 A7.out).mono ?_);(case side1 => repeat (exact (Kd.C_below HR0_0.out HB.out)));(case side2 => exact HC0_0.out);(case side3 => repeat (exact (Kd.C_below HR0_1.out HB.out)));(case side4 => exact HC0_1.out);rintro e w26 ⟨rfl,hb⟩;refine ⟨_,rfl, ?_⟩;replace BK412:=am_ (blk_below (by exact BK412.out) hb);replace BK413:=am_ (blk_below (by exact BK413.out) hb);replace HB:=am_ (below_step (by exact HB.out) hb);(try clear hb));go_meet;case rel =>exact ⟨_,(true),(by rfl),H',⟨by omega⟩,⟨by exact BK412.out⟩,⟨by exact BK413.out⟩,⟨by exact HB.out⟩⟩
  replace H:=bn_ H;obtain ⟨t415,A9,H⟩:=H;replace H:=jb_ H;obtain ⟨rfl,H⟩|⟨rfl,H⟩:=H
  ·have H':=am_ H;clear H;have hnb19:=NB412_413.out;have hnc19:=NB413_412.out;have hcz20_0:=c2_0 BK412.out;have hcz20_1:=c2_1 BK412.out;have hfz20_0:=blk_frozen BK412.out 0;have hfz20_1:=blk_frozen BK412.out 1;go_wp2_with (first | ((with_reducible refine gate_callee (f:=46) rfl ?_);refine goesL_ (some 10) rfl rfl Try.func46 (by kernel_rfl) rfl #[.agg #[.slice A0_0 l0_0.length c0_0, .slice A0_1 l0_1.length c0_1]] rfl (by (try simp only [List.map_toArray,List.map_cons,List.map_nil]);rfl) ?_;(with_reducible refine (spec_l18Good.calls k _ _ l0_0 _ _ l0_1 true _ ?side1 ?side2 ?side3 ?side4 A7.out).mono ?_);(case side1 => repeat (exact (Kd.C_below HR0_0.out HB.out)));(case side2 => exact HC0_0.out);(case side3 => repeat (exact (Kd.C_below HR0_1.out HB.out)));(case side4 => exact HC0_1.out);rintro e w21 ⟨rfl,hb⟩;refine ⟨_,rfl, ?_⟩;replace BK412:=am_ (blk_below (by exact BK412.out) hb);replace BK413:=am_ (blk_below (by exact BK413.out) hb);replace HB:=am_ (below_step (by exact HB.out) hb);(try clear hb);have hcz22_0:=c2_0 BK412.out;have hcz22_1:=c2_1 BK412.out;have hfz22_0:=blk_frozen BK412.out 0;have hfz22_1:=blk_frozen BK412.out 1) | (go_at_call 47;(with_reducible refine (spec_l18Slot.calls _ _ l0_0 _ _ l0_1 a2 false _ ?side1 ?side2 ?side3 ?side4 A9.out).mono ?_);(case side1 => repeat (exact (Kd.C_below HR0_0.out HB.out)));(case side2 => exact HC0_0.out);(case side3 => repeat (exact (Kd.C_below HR0_1.out HB.out)));(case side4 => exact HC0_1.out);rintro e w23 ⟨rfl,hb⟩;replace BK412:=am_ (blk_below (by exact BK412.out) hb);replace BK413:=am_ (blk_below (by exact BK413.out) hb);replace HB:=am_ (below_step (by exact HB.out) hb);(try clear hb)));go_meet;case rel =>exact ⟨_,(true),(by rfl),H',⟨by omega⟩,⟨by exact BK412.out⟩,⟨by exact BK413.out⟩,⟨by exact HB.out⟩⟩
  replace H:=bn_ H;obtain ⟨t416,A11,H⟩:=H;have H':=am_ H;clear H;have hnb12:=NB412_413.out;have hnc12:=NB413_412.out;have hcz13_0:=c2_0 BK412.out;have hcz13_1:=c2_1 BK412.out;have hfz13_0:=blk_frozen BK412.out 0;have hfz13_1:=blk_frozen BK412.out 1;go_wp2_with (first | ((with_reducible refine gate_callee (f:=46) rfl ?_);refine goesL_ (some 10) rfl rfl Try.func46 (by kernel_rfl) rfl #[.agg #[.slice A0_0 l0_0.length c0_0, .slice A0_1 l0_1.length c0_1]] rfl (by (try simp only [List.map_toArray,List.map_cons,List.map_nil]);rfl) ?_;(with_reducible refine (spec_l18Good.calls k _ _ l0_0 _ _ l0_1 true _ ?side1 ?side2 ?side3 ?side4 A7.out).mono ?_);(case side1 => repeat (exact (Kd.C_below HR0_0.out HB.out)));(case side2 => exact HC0_0.out);(case side3 => repeat (exact (Kd.C_below HR0_1.out HB.out)));(case side4 => exact HC0_1.out);rintro e w14 ⟨rfl,hb⟩;refine ⟨_,rfl, ?_⟩;replace BK412:=am_ (blk_below (by exact BK412.out) hb);replace BK413:=am_ (blk_below (by exact BK413.out) hb);replace HB:=am_ (below_step (by exact HB.out) hb);(try clear hb);have hcz15_0:=c2_0 BK412.out;have hcz15_1:=c2_1 BK412.out;have hfz15_0:=blk_frozen BK412.out 0;have hfz15_1:=blk_frozen BK412.out 1) | (go_at_call 47;(with_reducible refine (spec_l18Slot.calls _ _ l0_0 _ _ l0_1 a2 true _ ?side1 ?side2 ?side3 ?side4 A9.out).mono ?_);(case side1 => repeat (exact (Kd.C_below HR0_0.out HB.out)));(case side2 => exact HC0_0.out);(case side3 => repeat (exact (Kd.C_below HR0_1.out HB.out)));(case side4 => exact HC0_1.out);rintro e w16 ⟨rfl,hb⟩;replace BK412:=am_ (blk_below (by exact BK412.out) hb);replace BK413:=am_ (blk_below (by exact BK413.out) hb);replace HB:=am_ (below_step (by exact HB.out) hb);(try clear hb);have hcz17_0:=c2_0 BK412.out;have hcz17_1:=c2_1 BK412.out;have hfz17_0:=blk_frozen BK412.out 0;have hfz17_1:=blk_frozen BK412.out 1) | (go_at_call 48;(with_reducible refine (spec_l18Find.calls k _ _ l0_0 _ _ l0_1 a1 t416 _ ?side1 ?side2 ?side3 ?side4 A11.out).mono ?_);(case side1 => repeat (exact (Kd.C_below HR0_0.out HB.out)));(case side2 => exact HC0_0.out);(case side3 => repeat (exact (Kd.C_below HR0_1.out HB.out)));(case side4 => exact HC0_1.out);rintro e w18 ⟨rfl,hb⟩;replace BK412:=am_ (blk_below (by exact BK412.out) hb);replace BK413:=am_ (blk_below (by exact BK413.out) hb);replace HB:=am_ (below_step (by exact HB.out) hb);(try clear hb)));go_meet;case rel =>exact ⟨_,(decide (t416 ≥ 0)),(by rfl),H',⟨by omega⟩,⟨by exact BK412.out⟩,⟨by exact BK413.out⟩,⟨by exact HB.out⟩⟩
 case rest =>
 clear HC4;(try clear c1);(try clear c2);(try clear p2);(try clear c4);(try clear c8);(try clear c9);(try clear c10);(try clear c12);(try clear c19);(try clear c24);(try clear hcz13_0);(try clear hcz13_1);(try clear hcz15_0);(try clear hcz15_1);(try clear hcz17_0);(try clear hcz17_1);(try clear hcz20_0);(try clear hcz20_1);(try clear hcz22_0);(try clear hcz22_1);(try clear hcz25_0);(try clear hcz25_1);(try clear hfz13_0);(try clear hfz13_1);(try clear hfz15_0);(try clear hfz15_1);(try clear hfz17_0);(try clear hfz17_1);(try clear hfz20_0);(try clear hfz20_1);(try clear hfz22_0);(try clear hfz22_1);(try clear hfz25_0);(try clear hfz25_1);obtain ⟨kq,x23_3,rfl,HA,HJ3,BK412,BK413,HB⟩ := hcut
 cases kq with
 | zero =>exact absurd HA.out (by simp [spec_BookSlot.j0])
 | succ kj3 =>
 have H:=HA.out;clear HA;simp only [spec_BookSlot.j0] at H;replace H:=ib_ H;obtain ⟨rfl,H⟩|⟨rfl,H⟩:=H
 ·simp only [Option.some.injEq,Prod.mk.injEq] at H;obtain ⟨rfl,rfl,rfl⟩ := H;have hnb28:=NB413_412.out;have hnc28:=NB412_413.out;have hcz29_0:=c2_0 BK413.out;have hcz29_1:=c2_1 BK413.out;have hfz29_0:=blk_frozen BK413.out 0;have hfz29_1:=blk_frozen BK413.out 1;go_wp2;refine bodyPost_ret (results_ct rfl _ _ gb413 27 #[.slice none 0 0, .slice none 0 0] (0,0) _ rfl (by refine blk_put (cs:=#[.slice none 0 0, .slice none 0 0]) ?_ 1 _ rfl;refine blk_put (cs:=#[.slice none 0 0, .slice none 0 0]) ?_ 0 _ rfl;exact BK413.out) Try.underlying27 rfl (by kernel_rfl)) rfl ?_;exact ⟨_,_,by rfl,by exact Kd.R_nil _ _ _ _ _,by exact Kd.S_nil _ _ _ _ _,by repeat ((with_reducible first | exact HB.out | refine below_set ?_ GE413.out))⟩
 replace H:=bn_ H;obtain ⟨⟨t417,t420⟩,A30,H⟩:=H;dsimp only at H;replace H:=bn_ H;obtain ⟨t424,A31,H⟩:=H;replace H:=jb_ H;obtain ⟨rfl,H⟩|⟨rfl,H⟩:=H
 ·simp only [Option.some.injEq,Prod.mk.injEq] at H;obtain ⟨rfl,rfl,rfl⟩ := H;have hnb45:=NB412_413.out;have hnc45:=NB413_412.out;have hcz46_0:=c2_0 BK412.out;have hcz46_1:=c2_1 BK412.out;have hfz46_0:=blk_frozen BK412.out 0;have hfz46_1:=blk_frozen BK412.out 1;go_wp2_with (first | ((with_reducible refine gate_callee (f:=49) rfl ?_);refine goesL_ (some 28) rfl rfl Try.func49 (by kernel_rfl) rfl #[.agg #[.slice A0_0 l0_0.length c0_0, .slice A0_1 l0_1.length c0_1], .int .i64 a1, .int .i64 a2] rfl (by (try simp only [List.map_toArray,List.map_cons,List.map_nil]);rfl) ?_;(with_reducible refine (spec_l18Book.calls kj3 _ _ l0_0 _ _ l0_1 a1 a2 t417 t420 _ ?side1 ?side2 ?side3 ?side4 A30.out).mono ?_);(case side1 => repeat (exact (Kd.C_below HR0_0.out HB.out)));(case side2 => exact HC0_0.out);(case side3 => repeat (exact (Kd.C_below HR0_1.out HB.out)));(case side4 => exact HC0_1.out);rintro e w47 ⟨v418,v421,rfl,ho0,ho1,hb⟩;refine ⟨_,rfl, ?_⟩;have HO419:=am_ (Kd.R_lower ho0 (below_size (by exact HB.out)));have HO422:=am_ (Kd.S_lower ho1 (below_size (by exact HB.out)));replace BK412:=am_ (blk_below (by exact BK412.out) hb);replace BK413:=am_ (blk_below (by exact BK413.out) hb);replace HB:=am_ (below_step (by exact HB.out) hb);(try clear hb);(try clear ho0);(try clear ho1)) | ((with_reducible refine gate_dst (N:=8) rfl ?_);refine box_event ?hg (N:=8) ?hd (cs:=#[.slice none 0 0, .slice none 0 0]) (t:=27) ?hr ?_;(case hd => rfl);(case hg => rfl);(case hr => (go_simp;done));intro gb423 hg w48 hbox hb;replace HO419:=am_ (Kd.R_below (by exact HO419.out) hb);replace HO422:=am_ (Kd.S_below (by exact HO422.out) hb);have BK423:=am_ hbox;have GW423:=am_ (ge_ hg (by exact HB.out));have GE423:=am_ (ge_ hg (by exact HB.out));replace HB:=am_ (below_step (by exact HB.out) hb);have NB412_423:=am_ (nl_ hg (by exact BK412.out));have NB423_412:=am_ (ng_ hg (by exact BK412.out));replace BK412:=am_ (blk_below (by exact BK412.out) hb);have NB413_423:=am_ (nl_ hg (by exact BK413.out));have NB423_413:=am_ (ng_ hg (by exact BK413.out));replace BK413:=am_ (blk_below (by exact BK413.out) hb);clear hb hbox hg;obtain ⟨Ao49,co49,eo49⟩ := Kd.R_slice HO419.out;subst eo49;have hnb50:=NB423_412.out;have hnc50:=NB412_423.out;have hnb51:=NB423_413.out;have hnc51:=NB413_423.out;have hcz52_0:=c2_0 BK423.out;have hcz52_1:=c2_1 BK423.out;have hfz52_0:=blk_frozen BK423.out 0;have hfz52_1:=blk_frozen BK423.out 1;obtain ⟨Ao53,co53,eo53⟩ := Kd.S_slice HO422.out;subst eo53) | ((with_reducible refine gate_callee (f:=46) rfl ?_);refine goesL_ (some 30) rfl rfl Try.func46 (by kernel_rfl) rfl #[.agg #[.slice Ao49 t417.length co49, .slice Ao53 t420.length co53]] rfl (by (try simp only [List.map_toArray,List.map_cons,List.map_nil]);rfl) ?_;(with_reducible refine (spec_l18Good.calls kj3 _ _ t417 _ _ t420 false _ ?side1 ?side2 ?side3 ?side4 A31.out).mono ?_);(case side1 => refine (Kd.R_reads' (e:=3) (base:=w.heap.size) (ok:=fun k_ => True) (n:=t417.length) (c:=co49) ?_).2.2;exact (by exact (Kd.R_mono (rf2_ (Kd.R_types HO419.out BK423.out (by decide)) (.slice Ao49 t417.length co49) (.slice Ao53 t420.length co53)) (fun _ h_ => h_.1))));(case side2 => exact (Kd.R_reads' HO419.out).2.1);(case side3 => refine (Kd.S_reads' (e:=24) (base:=w.heap.size) (ok:=fun k_ => some k_ ≠ (.slice Ao49 t417.length co49 : Value).ownBlock) (n:=t420.length) (c:=co53) ?_).2.2;exact (by exact (Kd.S_mono (Kd.S_far (p:=⟨gb423,1,none⟩) (Kd.S_far (p:=⟨gb423,0,none⟩) (Kd.S_types HO422.out BK423.out (by decide)) (fun _ hk => hk.2) (.slice Ao49 t417.length co49)) (fun _ hk => hk.2) (.slice Ao53 t420.length co53)) (fun _ h_ => h_.1))));(case side4 => exact (Kd.S_reads' HO422.out).2.1);rintro e w54 ⟨rfl,hb⟩;refine ⟨_,rfl, ?_⟩;replace HO419:=am_ (Kd.R_below (by exact (Kd.R_mono (rf2_ (Kd.R_types HO419.out BK423.out (by decide)) (.slice Ao49 t417.length co49) (.slice Ao53 t420.length co53)) (fun _ h_ => h_.1))) hb);replace HO422:=am_ (Kd.S_below (by exact (Kd.S_mono (Kd.S_far (p:=⟨gb423,1,none⟩) (Kd.S_far (p:=⟨gb423,0,none⟩) (Kd.S_types HO422.out BK423.out (by decide)) (fun _ hk => hk.2) (.slice Ao49 t417.length co49)) (fun _ hk => hk.2) (.slice Ao53 t420.length co53)) (fun _ h_ => h_.1))) hb);replace BK412:=am_ (blk_below (g:=gb412) (o := .cells #[.slice A0_0 l0_0.length c0_0, .slice A0_1 l0_1.length c0_1] 27 (0,0)) (by refine blk_far ?_ NB412_423.out _;refine blk_far ?_ NB412_423.out _;exact BK412.out) hb);replace BK413:=am_ (blk_below (g:=gb413) (o := .cells #[.slice none 0 0, .slice none 0 0] 27 (0,0)) (by refine blk_far ?_ NB413_423.out _;refine blk_far ?_ NB413_423.out _;exact BK413.out) hb);replace BK423:=am_ (blk_below (g:=gb423) (o := .cells #[.slice Ao49 t417.length co49, .slice Ao53 t420.length co53] 27 (0,0)) (by refine blk_put (cs:=#[.slice Ao49 t417.length co49, .slice none 0 0]) ?_ 1 _ rfl;refine blk_put (cs:=#[.slice none 0 0, .slice none 0 0]) ?_ 0 _ rfl;exact BK423.out) hb);replace HB:=am_ (below_step (by repeat ((with_reducible first | exact HB.out | refine below_set ?_ GE423.out))) hb);(try clear hb);have hcz55_0:=c2_0 BK413.out;have hcz55_1:=c2_1 BK413.out;have hfz55_0:=blk_frozen BK413.out 0;have hfz55_1:=blk_frozen BK413.out 1));refine bodyPost_ret (results_ct rfl _ _ gb413 27 #[.slice none 0 0, .slice none 0 0] (0,0) _ rfl (by refine blk_put (cs:=#[.slice none 0 0, .slice none 0 0]) ?_ 1 _ rfl;refine blk_put (cs:=#[.slice none 0 0, .slice none 0 0]) ?_ 0 _ rfl;exact BK413.out) Try.underlying27 rfl (by kernel_rfl)) rfl ?_;exact ⟨_,_,by rfl,by exact Kd.R_nil _ _ _ _ _,by exact Kd.S_nil _ _ _ _ _,by repeat ((with_reducible first | exact HB.out | refine below_set ?_ GE413.out))⟩
 simp only [Option.some.injEq,Prod.mk.injEq] at H;obtain ⟨rfl,rfl,rfl⟩ := H;have hnb33:=NB412_413.out;have hnc33:=NB413_412.out;have hcz34_0:=c2_0 BK412.out;have hcz34_1:=c2_1 BK412.out;have hfz34_0:=blk_frozen BK412.out 0;have hfz34_1:=blk_frozen BK412.out 1;go_wp2_with (first | ((with_reducible refine gate_callee (f:=49) rfl ?_);refine goesL_ (some 28) rfl rfl Try.func49 (by kernel_rfl) rfl #[.agg #[.slice A0_0 l0_0.length c0_0, .slice A0_1 l0_1.length c0_1], .int .i64 a1, .int .i64 a2] rfl (by (try simp only [List.map_toArray,List.map_cons,List.map_nil]);rfl) ?_;(with_reducible refine (spec_l18Book.calls kj3 _ _ l0_0 _ _ l0_1 a1 a2 t417 t420 _ ?side1 ?side2 ?side3 ?side4 A30.out).mono ?_);(case side1 => repeat (exact (Kd.C_below HR0_0.out HB.out)));(case side2 => exact HC0_0.out);(case side3 => repeat (exact (Kd.C_below HR0_1.out HB.out)));(case side4 => exact HC0_1.out);rintro e w35 ⟨v418,v421,rfl,ho0,ho1,hb⟩;refine ⟨_,rfl, ?_⟩;have HO419:=am_ (Kd.R_lower ho0 (below_size (by exact HB.out)));have HO422:=am_ (Kd.S_lower ho1 (below_size (by exact HB.out)));replace BK412:=am_ (blk_below (by exact BK412.out) hb);replace BK413:=am_ (blk_below (by exact BK413.out) hb);replace HB:=am_ (below_step (by exact HB.out) hb);(try clear hb);(try clear ho0);(try clear ho1)) | ((with_reducible refine gate_dst (N:=8) rfl ?_);refine box_event ?hg (N:=8) ?hd (cs:=#[.slice none 0 0, .slice none 0 0]) (t:=27) ?hr ?_;(case hd => rfl);(case hg => rfl);(case hr => (go_simp;done));intro gb423 hg w36 hbox hb;replace HO419:=am_ (Kd.R_below (by exact HO419.out) hb);replace HO422:=am_ (Kd.S_below (by exact HO422.out) hb);have BK423:=am_ hbox;have GW423:=am_ (ge_ hg (by exact HB.out));have GE423:=am_ (ge_ hg (by exact HB.out));replace HB:=am_ (below_step (by exact HB.out) hb);have NB412_423:=am_ (nl_ hg (by exact BK412.out));have NB423_412:=am_ (ng_ hg (by exact BK412.out));replace BK412:=am_ (blk_below (by exact BK412.out) hb);have NB413_423:=am_ (nl_ hg (by exact BK413.out));have NB423_413:=am_ (ng_ hg (by exact BK413.out));replace BK413:=am_ (blk_below (by exact BK413.out) hb);clear hb hbox hg;obtain ⟨Ao37,co37,eo37⟩ := Kd.R_slice HO419.out;subst eo37;have hnb38:=NB423_412.out;have hnc38:=NB412_423.out;have hnb39:=NB423_413.out;have hnc39:=NB413_423.out;have hcz40_0:=c2_0 BK423.out;have hcz40_1:=c2_1 BK423.out;have hfz40_0:=blk_frozen BK423.out 0;have hfz40_1:=blk_frozen BK423.out 1;obtain ⟨Ao41,co41,eo41⟩ := Kd.S_slice HO422.out;subst eo41) | ((with_reducible refine gate_callee (f:=46) rfl ?_);refine goesL_ (some 30) rfl rfl Try.func46 (by kernel_rfl) rfl #[.agg #[.slice Ao37 t417.length co37, .slice Ao41 t420.length co41]] rfl (by (try simp only [List.map_toArray,List.map_cons,List.map_nil]);rfl) ?_;(with_reducible refine (spec_l18Good.calls kj3 _ _ t417 _ _ t420 true _ ?side1 ?side2 ?side3 ?side4 A31.out).mono ?_);(case side1 => refine (Kd.R_reads' (e:=3) (base:=w.heap.size) (ok:=fun k_ => True) (n:=t417.length) (c:=co37) ?_).2.2;exact (by exact (Kd.R_mono (rf2_ (Kd.R_types HO419.out BK423.out (by decide)) (.slice Ao37 t417.length co37) (.slice Ao41 t420.length co41)) (fun _ h_ => h_.1))));(case side2 => exact (Kd.R_reads' HO419.out).2.1);(case side3 => refine (Kd.S_reads' (e:=24) (base:=w.heap.size) (ok:=fun k_ => some k_ ≠ (.slice Ao37 t417.length co37 : Value).ownBlock) (n:=t420.length) (c:=co41) ?_).2.2;exact (by exact (Kd.S_mono (Kd.S_far (p:=⟨gb423,1,none⟩) (Kd.S_far (p:=⟨gb423,0,none⟩) (Kd.S_types HO422.out BK423.out (by decide)) (fun _ hk => hk.2) (.slice Ao37 t417.length co37)) (fun _ hk => hk.2) (.slice Ao41 t420.length co41)) (fun _ h_ => h_.1))));(case side4 => exact (Kd.S_reads' HO422.out).2.1);rintro e w42 ⟨rfl,hb⟩;refine ⟨_,rfl, ?_⟩;replace HO419:=am_ (Kd.R_below (by exact (Kd.R_mono (rf2_ (Kd.R_types HO419.out BK423.out (by decide)) (.slice Ao37 t417.length co37) (.slice Ao41 t420.length co41)) (fun _ h_ => h_.1))) hb);replace HO422:=am_ (Kd.S_below (by exact (Kd.S_mono (Kd.S_far (p:=⟨gb423,1,none⟩) (Kd.S_far (p:=⟨gb423,0,none⟩) (Kd.S_types HO422.out BK423.out (by decide)) (fun _ hk => hk.2) (.slice Ao37 t417.length co37)) (fun _ hk => hk.2) (.slice Ao41 t420.length co41)) (fun _ h_ => h_.1))) hb);replace BK412:=am_ (blk_below (g:=gb412) (o := .cells #[.slice A0_0 l0_0.length c0_0, .slice A0_1 l0_1.length c0_1] 27 (0,0)) (by refine blk_far ?_ NB412_423.out _;refine blk_far ?_ NB412_423.out _;exact BK412.out) hb);replace BK413:=am_ (blk_below (g:=gb413) (o := .cells #[.slice none 0 0, .slice none 0 0] 27 (0,0)) (by refine blk_far ?_ NB413_423.out _;refine blk_far ?_ NB413_423.out _;exact BK413.out) hb);replace BK423:=am_ (blk_below (g:=gb423) (o := .cells #[.slice Ao37 t417.length co37, .slice Ao41 t420.length co41] 27 (0,0)) (by refine blk_put (cs:=#[.slice Ao37 t417.length co37, .slice none 0 0]) ?_ 1 _ rfl;refine blk_put (cs:=#[.slice none 0 0, .slice none 0 0]) ?_ 0 _ rfl;exact BK423.out) hb);replace HB:=am_ (below_step (by repeat ((with_reducible first | exact HB.out | refine below_set ?_ GE423.out))) hb);(try clear hb);have hcz43_0:=c2_0 BK423.out;have hcz43_1:=c2_1 BK423.out;have hfz43_0:=blk_frozen BK423.out 0;have hfz43_1:=blk_frozen BK423.out 1;have hcz44_0:=c2_0 BK413.out;have hcz44_1:=c2_1 BK413.out;have hfz44_0:=blk_frozen BK413.out 0;have hfz44_1:=blk_frozen BK413.out 1));refine bodyPost_ret (results_ct rfl _ _ gb413 27 #[.slice Ao37 t417.length co37, .slice Ao41 t420.length co41] (0,0) _ rfl (by refine blk_put (cs:=#[.slice Ao37 t417.length co37, .slice none 0 0]) ?_ 1 _ rfl;refine blk_put (cs:=#[.slice none 0 0, .slice none 0 0]) ?_ 0 _ rfl;exact BK413.out) Try.underlying27 rfl (by kernel_rfl)) rfl ?_;exact ⟨_,_,by rfl,by exact Kd.R_mono (rf2_ (Kd.R_types HO419.out BK413.out (by decide)) (.slice Ao37 t417.length co37) (.slice Ao41 t420.length co41)) (fun _ hk => trivial),by exact Kd.S_mono (Kd.S_far (p:=⟨gb413,1,none⟩) (Kd.S_far (p:=⟨gb413,0,none⟩) (Kd.S_types HO422.out BK413.out (by decide)) (fun _ hk => hk.2) (.slice Ao37 t417.length co37)) (fun _ hk => hk.2) (.slice Ao41 t420.length co41)) (fun _ hk => hk.1),by repeat ((with_reducible first | exact HB.out | refine below_set ?_ GE413.out))⟩

/-! ### laws_rInts: function 25 -/
def laws_rInts.l0 : Nat → List Int → List Int → Int → Option (Bool)
 | 0,_,_,_ => none
 | k + 1,x0,x1,x5 => if x5 < (x0.length : Int) then (if 0 ≤ x5 then (if x5 < (x1.length : Int) then (if (rd x0 x5) = (rd x1 x5) then (laws_rInts.l0 k x0 x1 (wrap64 (x5 + 1))) else (some false)) else (none)) else (none)) else (some true)
def laws_rInts.f (k : Nat) (l0 : List Int) (l1 : List Int) : Option (Bool):=if (l0.length : Int) = (l1.length : Int) then (laws_rInts.l0 k l0 l1 0) else (some false)
theorem laws_rInts.mono_l : ∀ k,(∀ y0 y1 y2,LeO (laws_rInts.l0 k y0 y1 y2) (laws_rInts.l0 (k + 1) y0 y1 y2))
 | 0 => fun _ _ _ r h => by simp [laws_rInts.l0] at h
 | k + 1 => by
  have ih0:=laws_rInts.mono_l k
  ·intro y0 y1 y2
   unfold laws_rInts.l0
   repeat' first
   | (with_reducible exact ih0 _ _ _)
   | (with_reducible exact LeO.refl _)
   | (with_reducible exact LeO.none _)
   | (with_reducible refine LeO.ite ?_ ?_)
   | (with_reducible refine LeO.bind ?_ (fun _ => ?_))
   | exact ih0 _ _ _
   | exact LeO.none _
   | refine LeO.ite ?_ ?_
   | refine LeO.bind ?_ (fun _ => ?_)
theorem laws_rInts.mono : ∀ a0 a1 k,LeO (laws_rInts.f k a0 a1) (laws_rInts.f (k + 1) a0 a1):=by
 intro a0 a1 k;have ih0:=laws_rInts.mono_l k
 unfold laws_rInts.f
 repeat' first
   | (with_reducible exact ih0 _ _ _)
   | (with_reducible exact LeO.refl _)
   | (with_reducible exact LeO.none _)
   | (with_reducible refine LeO.ite ?_ ?_)
   | (with_reducible refine LeO.bind ?_ (fun _ => ?_))
   | exact ih0 _ _ _
   | exact LeO.none _
   | refine LeO.ite ?_ ?_
   | refine LeO.bind ?_ (fun _ => ?_)
set_option maxHeartbeats 8000000 in
set_option maxRecDepth 100000 in
theorem laws_rInts.calls (k : Nat) (A0 : Option Addr) (c0 : Nat) (l0 : List Int) (A1 : Option Addr) (c1 : Nat) (l1 : List Int) (r : Bool) (w : World) (hr0 : Kd.C (Kd.int .i64) w A0 l0.length l0) (hc0 : l0.length ≤ c0) (hr1 : Kd.C (Kd.int .i64) w A1 l1.length l1) (hc1 : l1.length ≤ c1) (h : laws_rInts.f k l0 l1 = some r) :
  Calls Try.prog 25 #[.slice A0 l0.length c0, .slice A1 l1.length c1] w fun e w' => e = .returned (.bool r) ∧ Drawn0 w w':=by
 have HR0:=am_ hr0;have HC0:=am_ hc0;clear hr0 hc0;have HR1:=am_ hr1;have HC1:=am_ hc1;clear hr1 hc1;have H : (if (l0.length : Int) = (l1.length : Int) then (laws_rInts.l0 k l0 l1 0) else (some false)) = some r:=h;clear h;replace H:=if_ H;obtain ⟨c3,H⟩|⟨c3,H⟩:=H
 ·have c3b0 : ((l0.length : Int) == (l1.length : Int)) = false:=beq_eq_false_iff_ne.mpr c3;have c3b1 : ((l0.length : Int) != (l1.length : Int)) = true:=bne_iff_ne.mpr c3;have c3b2 : (l0.length == l1.length) = false:=by (simp at c3 ⊢;omega)
  obtain rfl:=Option.some.inj H;go_enter Try.func25,Try.ntmps25;go_wp2;repeat (go_quiet (fail);try go_wp2)
  go_ret;exact ⟨by rfl,by repeat (exact Drawn0.refl _)⟩
 have c3b0 : ((l0.length : Int) == (l1.length : Int)) = true:=beq_iff_eq.mpr c3;have c3b1 : ((l0.length : Int) != (l1.length : Int)) = false:=bne_eq_false_iff_eq.mpr c3;have c3b2 : (l0.length == l1.length) = true:=by (simp at c3 ⊢;omega)
 clear c3;have H':=am_ H;clear H;go_enter Try.func25,Try.ntmps25;go_wp2;repeat (go_quiet (fail);try go_wp2)
 go_loopg [5] k (fun kq v5 w' => ∃ (x5_1 : Int),v5 = .int .i64 x5_1 ∧ Aside0 (laws_rInts.l0 kq l0 l1 x5_1 = some r) ∧ Aside0 (kq ≤ k) ∧ Drawn0 w w');case atStart =>exact ⟨(0),(by rfl),H',⟨Nat.le_refl _⟩,by repeat (exact Drawn0.refl _)⟩
 case round =>
 clear H';(try clear c1);(try clear c2);(try clear p2);(try clear c3);(try clear c3b0);(try clear c3b1);(try clear c3b2);obtain ⟨x5_1,rfl,HA,HK1,⟨m1,rfl⟩⟩ := hrel
 cases gk with
 | zero =>exact absurd HA.out (by simp [laws_rInts.l0])
 | succ k1 =>
 have H:=HA.out;clear HA;simp only [laws_rInts.l0] at H;replace H:=ie_ H;obtain ⟨c4b0,H⟩|⟨c4b0,H⟩:=H
 ·obtain rfl:=Option.some.inj H;go_wp2;repeat (go_quiet (fail);try go_wp2)
  go_ret;exact ⟨by rfl,by repeat (first | exact Drawn0.refl _ | apply Drawn0.step)⟩
 replace H:=iq_ H;obtain ⟨c5b0,H⟩:=H;replace H:=iq_ H;obtain ⟨c6b0,H⟩:=H;replace H:=if_ H;obtain ⟨c7,H⟩|⟨c7,H⟩:=H
 ·have c7b0 : ((rd l0 x5_1) == (rd l1 x5_1)) = false:=beq_eq_false_iff_ne.mpr c7;have c7b1 : ((rd l0 x5_1) != (rd l1 x5_1)) = true:=bne_iff_ne.mpr c7;obtain rfl:=Option.some.inj H;have p425 : 0 ≤ (x5_1 : Int):=of_decide_eq_true (by (with_reducible assumption));have q425 : x5_1 < (l0.length : Int):=of_decide_eq_true (by (with_reducible assumption));obtain ⟨ad425,e425,hx425_0⟩ := Kd.at_int HR0.out x5_1 p425 q425;cases e425;replace p425:=eq_true p425;replace q425:=eq_true q425;have p426 : 0 ≤ (x5_1 : Int):=of_decide_eq_true (by (with_reducible assumption));have q426 : x5_1 < (l1.length : Int):=of_decide_eq_true (by (with_reducible assumption));obtain ⟨ad426,e426,hx426_0⟩ := Kd.at_int HR1.out x5_1 p426 q426;cases e426;replace p426:=eq_true p426;replace q426:=eq_true q426;go_wp2;repeat (go_quiet (fail);try go_wp2)
  go_ret;exact ⟨by rfl,by repeat (first | exact Drawn0.refl _ | apply Drawn0.step)⟩
 have c7b0 : ((rd l0 x5_1) == (rd l1 x5_1)) = true:=beq_iff_eq.mpr c7;have c7b1 : ((rd l0 x5_1) != (rd l1 x5_1)) = false:=bne_eq_false_iff_eq.mpr c7;clear c7;have H':=am_ H;clear H;have p425 : 0 ≤ (x5_1 : Int):=of_decide_eq_true (by (with_reducible assumption));have q425 : x5_1 < (l0.length : Int):=of_decide_eq_true (by (with_reducible assumption));obtain ⟨ad425,e425,hx425_0⟩ := Kd.at_int HR0.out x5_1 p425 q425;cases e425;replace p425:=eq_true p425;replace q425:=eq_true q425;have p426 : 0 ≤ (x5_1 : Int):=of_decide_eq_true (by (with_reducible assumption));have q426 : x5_1 < (l1.length : Int):=of_decide_eq_true (by (with_reducible assumption));obtain ⟨ad426,e426,hx426_0⟩ := Kd.at_int HR1.out x5_1 p426 q426;cases e426;replace p426:=eq_true p426;replace q426:=eq_true q426;go_wp2;repeat (go_quiet (fail);try go_wp2)
 go_roundg k1;case measure =>have:=HK1.out;omega
 case rel =>exact ⟨(wrap64 (x5_1 + 1)),(by rfl),H',⟨by have:=HK1.out;omega⟩,by repeat (first | exact Drawn0.refl _ | apply Drawn0.step)⟩

/-! ### laws_rTable: function 50 -/
def laws_rTable.l0 : Nat → List (List Int) → List (List Int) → Int → Option (Bool)
 | 0,_,_,_ => none
 | k + 1,x0,x1,x5 => if x5 < (x0.length : Int) then (if 0 ≤ x5 then (if x5 < (x1.length : Int) then ((laws_rInts.f k (rd_L2 x0 x5) (rd_L2 x1 x5)).bind fun t429 => (if t429 = true then (laws_rTable.l0 k x0 x1 (wrap64 (x5 + 1))) else (some false))) else (none)) else (none)) else (some true)
def laws_rTable.f (k : Nat) (l0 : List (List Int)) (l1 : List (List Int)) : Option (Bool):=if (l0.length : Int) = (l1.length : Int) then (laws_rTable.l0 k l0 l1 0) else (some false)
theorem laws_rTable.mono_l : ∀ k,(∀ y0 y1 y2,LeO (laws_rTable.l0 k y0 y1 y2) (laws_rTable.l0 (k + 1) y0 y1 y2))
 | 0 => fun _ _ _ r h => by simp [laws_rTable.l0] at h
 | k + 1 => by
  have ih0:=laws_rTable.mono_l k
  ·intro y0 y1 y2
   unfold laws_rTable.l0
   repeat' first
   | (with_reducible exact ih0 _ _ _)
   | (with_reducible exact laws_rInts.mono _ _ _)
   | (with_reducible exact LeO.refl _)
   | (with_reducible exact LeO.none _)
   | (with_reducible refine LeO.ite ?_ ?_)
   | (with_reducible refine LeO.bind ?_ (fun _ => ?_))
   | exact ih0 _ _ _
   | exact laws_rInts.mono _ _ _
   | exact LeO.none _
   | refine LeO.ite ?_ ?_
   | refine LeO.bind ?_ (fun _ => ?_)
theorem laws_rTable.mono : ∀ a0 a1 k,LeO (laws_rTable.f k a0 a1) (laws_rTable.f (k + 1) a0 a1):=by
 intro a0 a1 k;have ih0:=laws_rTable.mono_l k
 unfold laws_rTable.f
 repeat' first
   | (with_reducible exact ih0 _ _ _)
   | (with_reducible exact laws_rInts.mono _ _ _)
   | (with_reducible exact LeO.refl _)
   | (with_reducible exact LeO.none _)
   | (with_reducible refine LeO.ite ?_ ?_)
   | (with_reducible refine LeO.bind ?_ (fun _ => ?_))
   | exact ih0 _ _ _
   | exact laws_rInts.mono _ _ _
   | exact LeO.none _
   | refine LeO.ite ?_ ?_
   | refine LeO.bind ?_ (fun _ => ?_)
set_option maxHeartbeats 8000000 in
set_option maxRecDepth 100000 in
theorem laws_rTable.calls (k : Nat) (A0 : Option Addr) (c0 : Nat) (l0 : List (List Int)) (A1 : Option Addr) (c1 : Nat) (l1 : List (List Int)) (r : Bool) (w : World) (hr0 : Kd.C (Kd.slice 3 (Kd.int .i64)) w A0 l0.length l0) (hc0 : l0.length ≤ c0) (hr1 : Kd.C (Kd.slice 3 (Kd.int .i64)) w A1 l1.length l1) (hc1 : l1.length ≤ c1) (h : laws_rTable.f k l0 l1 = some r) :
  Calls Try.prog 50 #[.slice A0 l0.length c0, .slice A1 l1.length c1] w fun e w' => e = .returned (.bool r) ∧ Drawn0 w w':=by
 have HR0:=am_ hr0;have HC0:=am_ hc0;clear hr0 hc0;have HR1:=am_ hr1;have HC1:=am_ hc1;clear hr1 hc1;have H : (if (l0.length : Int) = (l1.length : Int) then (laws_rTable.l0 k l0 l1 0) else (some false)) = some r:=h;clear h;replace H:=if_ H;obtain ⟨c3,H⟩|⟨c3,H⟩:=H
 ·have c3b0 : ((l0.length : Int) == (l1.length : Int)) = false:=beq_eq_false_iff_ne.mpr c3;have c3b1 : ((l0.length : Int) != (l1.length : Int)) = true:=bne_iff_ne.mpr c3;have c3b2 : (l0.length == l1.length) = false:=by (simp at c3 ⊢;omega)
  obtain rfl:=Option.some.inj H;go_enter Try.func50,Try.ntmps50;go_wp2;repeat (go_quiet (fail);try go_wp2)
  go_ret;exact ⟨by rfl,by repeat (exact Drawn0.refl _)⟩
 have c3b0 : ((l0.length : Int) == (l1.length : Int)) = true:=beq_iff_eq.mpr c3;have c3b1 : ((l0.length : Int) != (l1.length : Int)) = false:=bne_eq_false_iff_eq.mpr c3;have c3b2 : (l0.length == l1.length) = true:=by (simp at c3 ⊢;omega)
 clear c3;have H':=am_ H;clear H;go_enter Try.func50,Try.ntmps50;go_wp2;repeat (go_quiet (fail);try go_wp2)
 go_loopg [5] k (fun kq v5 w' => ∃ (x5_1 : Int),v5 = .int .i64 x5_1 ∧ Aside0 (laws_rTable.l0 kq l0 l1 x5_1 = some r) ∧ Aside0 (kq ≤ k) ∧ Drawn0 w w');case atStart =>exact ⟨(0),(by rfl),H',⟨Nat.le_refl _⟩,by repeat (exact Drawn0.refl _)⟩
 case round =>
 clear H';(try clear c1);(try clear p2);(try clear c3);(try clear c3b0);(try clear c3b1);(try clear c3b2);obtain ⟨x5_1,rfl,HA,HK1,⟨m1,rfl⟩⟩ := hrel
 cases gk with
 | zero =>exact absurd HA.out (by simp [laws_rTable.l0])
 | succ k1 =>
 have H:=HA.out;clear HA;simp only [laws_rTable.l0] at H;replace H:=ie_ H;obtain ⟨c4b0,H⟩|⟨c4b0,H⟩:=H
 ·obtain rfl:=Option.some.inj H;go_wp2;repeat (go_quiet (fail);try go_wp2)
  go_ret;exact ⟨by rfl,by repeat (first | exact Drawn0.refl _ | apply Drawn0.step)⟩
 replace H:=iq_ H;obtain ⟨c5b0,H⟩:=H;replace H:=iq_ H;obtain ⟨c6b0,H⟩:=H;replace H:=bn_ H;obtain ⟨t429,A7,H⟩:=H;replace H:=jb_ H;obtain ⟨rfl,H⟩|⟨rfl,H⟩:=H
 ·obtain rfl:=Option.some.inj H;have p427 : 0 ≤ (x5_1 : Int):=of_decide_eq_true (by (with_reducible assumption));have q427 : x5_1 < (l0.length : Int):=of_decide_eq_true (by (with_reducible assumption));obtain ⟨ad427,A427_0,c427_0,e427,hx427_0,hl427_0,hi427_0⟩ := at_L2 HR0.out x5_1 p427 q427;cases e427;have HR427_0:=am_ hi427_0;have HC427_0:=am_ hl427_0;clear hi427_0 hl427_0;replace p427:=eq_true p427;replace q427:=eq_true q427;have p428 : 0 ≤ (x5_1 : Int):=of_decide_eq_true (by (with_reducible assumption));have q428 : x5_1 < (l1.length : Int):=of_decide_eq_true (by (with_reducible assumption));obtain ⟨ad428,A428_0,c428_0,e428,hx428_0,hl428_0,hi428_0⟩ := at_L2 HR1.out x5_1 p428 q428;cases e428;have HR428_0:=am_ hi428_0;have HC428_0:=am_ hl428_0;clear hi428_0 hl428_0;replace p428:=eq_true p428;replace q428:=eq_true q428;go_wp2_with (fail);repeat (go_quiet ((go_at_call 25;(with_reducible refine (laws_rInts.calls k1 _ _ (rd_L2 l0 x5_1) _ _ (rd_L2 l1 x5_1) false _ ?side1 ?side2 ?side3 ?side4 A7.out).mono ?_);(case side1 => repeat (exact HR427_0.out));(case side2 => exact HC427_0.out);(case side3 => repeat (exact HR428_0.out));(case side4 => exact HC428_0.out);rintro e w' ⟨rfl,⟨nd,rfl⟩⟩;(try first | exact ⟨rfl,_,World.drewN_drewN _ _ _⟩ | exact ⟨rfl,_,Eq.trans (World.drewN_drewN _ _ _) (congrArg (World.drewN _) (Nat.add_assoc _ _ _))⟩)));try go_wp2_with (fail))
  go_ret;exact ⟨by rfl,by repeat (first | exact Drawn0.refl _ | apply Drawn0.step)⟩
 have H':=am_ H;clear H;have p427 : 0 ≤ (x5_1 : Int):=of_decide_eq_true (by (with_reducible assumption));have q427 : x5_1 < (l0.length : Int):=of_decide_eq_true (by (with_reducible assumption));obtain ⟨ad427,A427_0,c427_0,e427,hx427_0,hl427_0,hi427_0⟩ := at_L2 HR0.out x5_1 p427 q427;cases e427;have HR427_0:=am_ hi427_0;have HC427_0:=am_ hl427_0;clear hi427_0 hl427_0;replace p427:=eq_true p427;replace q427:=eq_true q427;have p428 : 0 ≤ (x5_1 : Int):=of_decide_eq_true (by (with_reducible assumption));have q428 : x5_1 < (l1.length : Int):=of_decide_eq_true (by (with_reducible assumption));obtain ⟨ad428,A428_0,c428_0,e428,hx428_0,hl428_0,hi428_0⟩ := at_L2 HR1.out x5_1 p428 q428;cases e428;have HR428_0:=am_ hi428_0;have HC428_0:=am_ hl428_0;clear hi428_0 hl428_0;replace p428:=eq_true p428;replace q428:=eq_true q428;go_wp2_with (fail);repeat (go_quiet ((go_at_call 25;(with_reducible refine (laws_rInts.calls k1 _ _ (rd_L2 l0 x5_1) _ _ (rd_L2 l1 x5_1) true _ ?side1 ?side2 ?side3 ?side4 A7.out).mono ?_);(case side1 => repeat (exact HR427_0.out));(case side2 => exact HC427_0.out);(case side3 => repeat (exact HR428_0.out));(case side4 => exact HC428_0.out);rintro e w' ⟨rfl,⟨nd,rfl⟩⟩;(try first | exact ⟨rfl,_,World.drewN_drewN _ _ _⟩ | exact ⟨rfl,_,Eq.trans (World.drewN_drewN _ _ _) (congrArg (World.drewN _) (Nat.add_assoc _ _ _))⟩)));try go_wp2_with (fail))
 go_roundg k1;case measure =>have:=HK1.out;omega
 case rel =>exact ⟨(wrap64 (x5_1 + 1)),(by rfl),H',⟨by have:=HK1.out;omega⟩,by repeat (first | exact Drawn0.refl _ | apply Drawn0.step)⟩

/-! ### laws_rGates: function 10 -/
def laws_rGates.f (k : Nat) (l0_0 : List Int) (l0_1 : List (List Int)) (l1_0 : List Int) (l1_1 : List (List Int)) : Option (Bool):=(laws_rInts.f k l0_0 l1_0).bind fun t432 => (if t432 = true then ((laws_rTable.f k l0_1 l1_1).bind fun t433 => (some t433)) else (some false))
theorem laws_rGates.mono : ∀ a0 a1 a2 a3 k,LeO (laws_rGates.f k a0 a1 a2 a3) (laws_rGates.f (k + 1) a0 a1 a2 a3):=by
 intro a0 a1 a2 a3 k
 unfold laws_rGates.f
 repeat' first
   | (with_reducible exact laws_rInts.mono _ _ _)
   | (with_reducible exact laws_rTable.mono _ _ _)
   | (with_reducible exact LeO.refl _)
   | (with_reducible exact LeO.none _)
   | (with_reducible refine LeO.ite ?_ ?_)
   | (with_reducible refine LeO.bind ?_ (fun _ => ?_))
   | exact laws_rInts.mono _ _ _
   | exact laws_rTable.mono _ _ _
   | exact LeO.none _
   | refine LeO.ite ?_ ?_
   | refine LeO.bind ?_ (fun _ => ?_)
set_option maxHeartbeats 8000000 in
set_option maxRecDepth 100000 in
theorem laws_rGates.calls (k : Nat) (A0_0 : Option Addr) (c0_0 : Nat) (l0_0 : List Int) (A0_1 : Option Addr) (c0_1 : Nat) (l0_1 : List (List Int)) (A1_0 : Option Addr) (c1_0 : Nat) (l1_0 : List Int) (A1_1 : Option Addr) (c1_1 : Nat) (l1_1 : List (List Int)) (r : Bool) (w : World) (hr0_0 : Kd.C (Kd.int .i64) w A0_0 l0_0.length l0_0) (hc0_0 : l0_0.length ≤ c0_0) (hr0_1 : Kd.C (Kd.slice 3 (Kd.int .i64)) w A0_1 l0_1.length l0_1) (hc0_1 : l0_1.length ≤ c0_1) (hr1_0 : Kd.C (Kd.int .i64) w A1_0 l1_0.length l1_0) (hc1_0 : l1_0.length ≤ c1_0) (hr1_1 : Kd.C (Kd.slice 3 (Kd.int .i64)) w A1_1 l1_1.length l1_1) (hc1_1 : l1_1.length ≤ c1_1) (h : laws_rGates.f k l0_0 l0_1 l1_0 l1_1 = some r) :
  Calls Try.prog 10 #[.agg #[.slice A0_0 l0_0.length c0_0, .slice A0_1 l0_1.length c0_1], .agg #[.slice A1_0 l1_0.length c1_0, .slice A1_1 l1_1.length c1_1]] w fun e w' => e = .returned (.bool r) ∧ Below w.heap.size w w':=by
 have hu27:=Try.underlying27;have HR0_0:=am_ hr0_0;have HC0_0:=am_ hc0_0;clear hr0_0 hc0_0;have HR0_1:=am_ hr0_1;have HC0_1:=am_ hc0_1;clear hr0_1 hc0_1;have HR1_0:=am_ hr1_0;have HC1_0:=am_ hc1_0;clear hr1_0 hc1_0;have HR1_1:=am_ hr1_1;have HC1_1:=am_ hc1_1;clear hr1_1 hc1_1;have HB:=am_ (Below.refl w.heap.size w);have H : ((laws_rInts.f k l0_0 l1_0).bind fun t432 => (if t432 = true then ((laws_rTable.f k l0_1 l1_1).bind fun t433 => (some t433)) else (some false))) = some r:=h;clear h;replace H:=bn_ H;obtain ⟨t432,A3,H⟩:=H;replace H:=jb_ H;obtain ⟨rfl,H⟩|⟨rfl,H⟩:=H
 ·obtain rfl:=Option.some.inj H;go_enter Try.func10,Try.ntmps10;go_wp2_with (first | ((with_reducible refine gate_dst (N:=2) rfl ?_);refine box_event ?hg (N:=2) ?hd (cs:=#[.slice A0_0 l0_0.length c0_0, .slice A0_1 l0_1.length c0_1]) (t:=27) ?hr ?_;(case hd => rfl);(case hg => rfl);(case hr => (go_simp;done));intro gb430 hg w11 hbox hb;have BK430:=am_ hbox;have GW430:=am_ (ge_ hg (by exact HB.out));have GE430:=am_ (ge_ hg (by exact HB.out));replace HB:=am_ (below_step (by exact HB.out) hb);clear hb hbox hg) | ((with_reducible refine gate_dst (N:=3) rfl ?_);refine box_event ?hg (N:=3) ?hd (cs:=#[.slice A1_0 l1_0.length c1_0, .slice A1_1 l1_1.length c1_1]) (t:=27) ?hr ?_;(case hd => rfl);(case hg => rfl);(case hr => (go_simp;done));intro gb431 hg w12 hbox hb;have BK431:=am_ hbox;have GW431:=am_ (ge_ hg (by exact HB.out));have GE431:=am_ (ge_ hg (by exact HB.out));replace HB:=am_ (below_step (by exact HB.out) hb);have NB430_431:=am_ (nl_ hg (by exact BK430.out));have NB431_430:=am_ (ng_ hg (by exact BK430.out));replace BK430:=am_ (blk_below (by exact BK430.out) hb);clear hb hbox hg;have hnb13:=NB430_431.out;have hnc13:=NB431_430.out;have hcz14_0:=c2_0 BK430.out;have hcz14_1:=c2_1 BK430.out;have hfz14_0:=blk_frozen BK430.out 0;have hfz14_1:=blk_frozen BK430.out 1;have hcz15_0:=c2_0 BK431.out;have hcz15_1:=c2_1 BK431.out;have hfz15_0:=blk_frozen BK431.out 0;have hfz15_1:=blk_frozen BK431.out 1) | ((with_reducible refine gate_callee (f:=25) rfl ?_);refine goesL_ (some 9) rfl rfl Try.func25 (by kernel_rfl) rfl #[.slice A0_0 l0_0.length c0_0, .slice A1_0 l1_0.length c1_0] rfl (by (try simp only [List.map_toArray,List.map_cons,List.map_nil]);rfl) ?_;(with_reducible refine (laws_rInts.calls k _ _ l0_0 _ _ l1_0 false _ ?side1 ?side2 ?side3 ?side4 A3.out).mono ?_);(case side1 => repeat (exact (Kd.C_below HR0_0.out HB.out)));(case side2 => exact HC0_0.out);(case side3 => repeat (exact (Kd.C_below HR1_0.out HB.out)));(case side4 => exact HC1_0.out);rintro e w' ⟨rfl,⟨nd,rfl⟩⟩;refine ⟨_,rfl, ?_⟩));go_ret;exact ⟨by rfl,by repeat ((with_reducible first | exact HB.out | apply pw_below_drewN))⟩
 replace H:=bn_ H;obtain ⟨t433,A5,H⟩:=H;obtain rfl:=Option.some.inj H;go_enter Try.func10,Try.ntmps10;go_wp2_with (first | ((with_reducible refine gate_dst (N:=2) rfl ?_);refine box_event ?hg (N:=2) ?hd (cs:=#[.slice A0_0 l0_0.length c0_0, .slice A0_1 l0_1.length c0_1]) (t:=27) ?hr ?_;(case hd => rfl);(case hg => rfl);(case hr => (go_simp;done));intro gb430 hg w6 hbox hb;have BK430:=am_ hbox;have GW430:=am_ (ge_ hg (by exact HB.out));have GE430:=am_ (ge_ hg (by exact HB.out));replace HB:=am_ (below_step (by exact HB.out) hb);clear hb hbox hg) | ((with_reducible refine gate_dst (N:=3) rfl ?_);refine box_event ?hg (N:=3) ?hd (cs:=#[.slice A1_0 l1_0.length c1_0, .slice A1_1 l1_1.length c1_1]) (t:=27) ?hr ?_;(case hd => rfl);(case hg => rfl);(case hr => (go_simp;done));intro gb431 hg w7 hbox hb;have BK431:=am_ hbox;have GW431:=am_ (ge_ hg (by exact HB.out));have GE431:=am_ (ge_ hg (by exact HB.out));replace HB:=am_ (below_step (by exact HB.out) hb);have NB430_431:=am_ (nl_ hg (by exact BK430.out));have NB431_430:=am_ (ng_ hg (by exact BK430.out));replace BK430:=am_ (blk_below (by exact BK430.out) hb);clear hb hbox hg;have hnb8:=NB430_431.out;have hnc8:=NB431_430.out;have hcz9_0:=c2_0 BK430.out;have hcz9_1:=c2_1 BK430.out;have hfz9_0:=blk_frozen BK430.out 0;have hfz9_1:=blk_frozen BK430.out 1;have hcz10_0:=c2_0 BK431.out;have hcz10_1:=c2_1 BK431.out;have hfz10_0:=blk_frozen BK431.out 0;have hfz10_1:=blk_frozen BK431.out 1) | ((with_reducible refine gate_callee (f:=25) rfl ?_);refine goesL_ (some 9) rfl rfl Try.func25 (by kernel_rfl) rfl #[.slice A0_0 l0_0.length c0_0, .slice A1_0 l1_0.length c1_0] rfl (by (try simp only [List.map_toArray,List.map_cons,List.map_nil]);rfl) ?_;(with_reducible refine (laws_rInts.calls k _ _ l0_0 _ _ l1_0 true _ ?side1 ?side2 ?side3 ?side4 A3.out).mono ?_);(case side1 => repeat (exact (Kd.C_below HR0_0.out HB.out)));(case side2 => exact HC0_0.out);(case side3 => repeat (exact (Kd.C_below HR1_0.out HB.out)));(case side4 => exact HC1_0.out);rintro e w' ⟨rfl,⟨nd,rfl⟩⟩;refine ⟨_,rfl, ?_⟩) | (go_at_call 50;(with_reducible refine (laws_rTable.calls k _ _ l0_1 _ _ l1_1 t433 _ ?side1 ?side2 ?side3 ?side4 A5.out).mono ?_);(case side1 => repeat (exact (Kd.C_below HR0_1.out (by repeat ((with_reducible first | exact HB.out | apply pw_below_drewN))))));(case side2 => exact HC0_1.out);(case side3 => repeat (exact (Kd.C_below HR1_1.out (by repeat ((with_reducible first | exact HB.out | apply pw_below_drewN))))));(case side4 => exact HC1_1.out);rintro e w' ⟨rfl,⟨nd,rfl⟩⟩));go_ret;exact ⟨by rfl,by repeat ((with_reducible first | exact HB.out | apply pw_below_drewN))⟩

/-! ### impl_TruckSlot: function 11 -/
def impl_TruckSlot.f (k : Nat) (l0_0 : List Int) (l0_1 : List (List Int)) (a1 : Int) : Option (Int × Bool):=(impl_slotOfTruck.f k l0_0 l0_1 a1).bind fun t435 => ((impl_isGateFor.f k l0_0 l0_1 a1 ([] : List Int)).bind fun t436 => (if t436 = true then (if t435 < 0 then (some (0,false)) else (some (t435,true))) else (some (0,false))))
theorem impl_TruckSlot.mono : ∀ a0 a1 a2 k,LeO (impl_TruckSlot.f k a0 a1 a2) (impl_TruckSlot.f (k + 1) a0 a1 a2):=by
 intro a0 a1 a2 k
 unfold impl_TruckSlot.f
 repeat' first
   | (with_reducible exact impl_isGateFor.mono _ _ _ _ _)
   | (with_reducible exact impl_slotOfTruck.mono _ _ _ _)
   | (with_reducible exact LeO.refl _)
   | (with_reducible exact LeO.none _)
   | (with_reducible refine LeO.ite ?_ ?_)
   | (with_reducible refine LeO.bind ?_ (fun _ => ?_))
   | exact impl_isGateFor.mono _ _ _ _ _
   | exact impl_slotOfTruck.mono _ _ _ _
   | exact LeO.none _
   | refine LeO.ite ?_ ?_
   | refine LeO.bind ?_ (fun _ => ?_)
set_option maxHeartbeats 8000000 in
set_option maxRecDepth 100000 in
theorem impl_TruckSlot.calls (k : Nat) (A0_0 : Option Addr) (c0_0 : Nat) (l0_0 : List Int) (A0_1 : Option Addr) (c0_1 : Nat) (l0_1 : List (List Int)) (a1 : Int) (r1 : Int) (r2 : Bool) (w : World) (hr0_0 : Kd.C (Kd.int .i64) w A0_0 l0_0.length l0_0) (hc0_0 : l0_0.length ≤ c0_0) (hr0_1 : Kd.C (Kd.slice 3 (Kd.int .i64)) w A0_1 l0_1.length l0_1) (hc0_1 : l0_1.length ≤ c0_1) (h : impl_TruckSlot.f k l0_0 l0_1 a1 = some (r1,r2)) :
  Calls Try.prog 11 #[.agg #[.slice A0_0 l0_0.length c0_0, .slice A0_1 l0_1.length c0_1], .int .i64 a1] w fun e w' => e = .returned (.tuple #[.int .i64 r1, .bool r2]) ∧ Below w.heap.size w w':=by
 have hu27:=Try.underlying27;have HR0_0:=am_ hr0_0;have HC0_0:=am_ hc0_0;clear hr0_0 hc0_0;have HR0_1:=am_ hr0_1;have HC0_1:=am_ hc0_1;clear hr0_1 hc0_1;have HB:=am_ (Below.refl w.heap.size w);have H : ((impl_slotOfTruck.f k l0_0 l0_1 a1).bind fun t435 => ((impl_isGateFor.f k l0_0 l0_1 a1 ([] : List Int)).bind fun t436 => (if t436 = true then (if t435 < 0 then (some (0,false)) else (some (t435,true))) else (some (0,false))))) = some (r1,r2):=h;clear h;replace H:=bn_ H;obtain ⟨t435,A3,H⟩:=H;replace H:=bn_ H;obtain ⟨t436,A4,H⟩:=H;replace H:=jb_ H;obtain ⟨rfl,H⟩|⟨rfl,H⟩:=H
 ·simp only [Option.some.injEq,Prod.mk.injEq] at H;obtain ⟨rfl,rfl⟩ := H;go_enter Try.func11,Try.ntmps11;go_wp2_with (first | ((with_reducible refine gate_dst (N:=2) rfl ?_);refine box_event ?hg (N:=2) ?hd (cs:=#[.slice A0_0 l0_0.length c0_0, .slice A0_1 l0_1.length c0_1]) (t:=27) ?hr ?_;(case hd => rfl);(case hg => rfl);(case hr => (go_simp;done));intro gb434 hg w17 hbox hb;have BK434:=am_ hbox;have GW434:=am_ (ge_ hg (by exact HB.out));have GE434:=am_ (ge_ hg (by exact HB.out));replace HB:=am_ (below_step (by exact HB.out) hb);clear hb hbox hg;have hcz18_0:=c2_0 BK434.out;have hcz18_1:=c2_1 BK434.out;have hfz18_0:=blk_frozen BK434.out 0;have hfz18_1:=blk_frozen BK434.out 1) | ((with_reducible refine gate_callee (f:=43) rfl ?_);refine goesL_ (some 9) rfl rfl Try.func43 (by kernel_rfl) rfl #[.agg #[.slice A0_0 l0_0.length c0_0, .slice A0_1 l0_1.length c0_1], .int .i64 a1] rfl (by (try simp only [List.map_toArray,List.map_cons,List.map_nil]);rfl) ?_;(with_reducible refine (impl_slotOfTruck.calls k _ _ l0_0 _ _ l0_1 a1 t435 _ ?side1 ?side2 ?side3 ?side4 A3.out).mono ?_);(case side1 => repeat (exact (Kd.C_below HR0_0.out HB.out)));(case side2 => exact HC0_0.out);(case side3 => repeat (exact (Kd.C_below HR0_1.out HB.out)));(case side4 => exact HC0_1.out);rintro e w19 ⟨rfl,hb⟩;refine ⟨_,rfl, ?_⟩;replace BK434:=am_ (blk_below (by exact BK434.out) hb);replace HB:=am_ (below_step (by exact HB.out) hb);(try clear hb);have hcz20_0:=c2_0 BK434.out;have hcz20_1:=c2_1 BK434.out;have hfz20_0:=blk_frozen BK434.out 0;have hfz20_1:=blk_frozen BK434.out 1) | ((with_reducible refine gate_callee (f:=42) rfl ?_);refine goesL_ (some 12) rfl rfl Try.func42 (by kernel_rfl) rfl #[.agg #[.slice A0_0 l0_0.length c0_0, .slice A0_1 l0_1.length c0_1], .int .i64 a1, .slice none 0 0] rfl (by (try simp only [List.map_toArray,List.map_cons,List.map_nil]);rfl) ?_;(refine (impl_isGateFor.calls k _ _ l0_0 _ _ l0_1 a1 _ _ ([] : List Int) false _ ?side1 ?side2 ?side3 ?side4 ?side5 ?side6 A4.out).mono ?_);(case side1 => repeat (exact (Kd.C_below HR0_0.out HB.out)));(case side2 => exact HC0_0.out);(case side3 => repeat (exact (Kd.C_below HR0_1.out HB.out)));(case side4 => exact HC0_1.out);(case side5 => exact Kd.C_nil _ _);(case side6 => exact Nat.le_refl _);rintro e w21 ⟨rfl,hb⟩;refine ⟨_,rfl, ?_⟩;replace BK434:=am_ (blk_below (by exact BK434.out) hb);replace HB:=am_ (below_step (by exact HB.out) hb);(try clear hb)));go_ret2;exact ⟨by rfl,by exact HB.out⟩
 replace H:=id_ H;obtain ⟨c6b0,H⟩|⟨c6b0,H⟩:=H
 ·simp only [Option.some.injEq,Prod.mk.injEq] at H;obtain ⟨rfl,rfl⟩ := H;go_enter Try.func11,Try.ntmps11;go_wp2_with (first | ((with_reducible refine gate_dst (N:=2) rfl ?_);refine box_event ?hg (N:=2) ?hd (cs:=#[.slice A0_0 l0_0.length c0_0, .slice A0_1 l0_1.length c0_1]) (t:=27) ?hr ?_;(case hd => rfl);(case hg => rfl);(case hr => (go_simp;done));intro gb434 hg w7 hbox hb;have BK434:=am_ hbox;have GW434:=am_ (ge_ hg (by exact HB.out));have GE434:=am_ (ge_ hg (by exact HB.out));replace HB:=am_ (below_step (by exact HB.out) hb);clear hb hbox hg;have hcz8_0:=c2_0 BK434.out;have hcz8_1:=c2_1 BK434.out;have hfz8_0:=blk_frozen BK434.out 0;have hfz8_1:=blk_frozen BK434.out 1) | ((with_reducible refine gate_callee (f:=43) rfl ?_);refine goesL_ (some 9) rfl rfl Try.func43 (by kernel_rfl) rfl #[.agg #[.slice A0_0 l0_0.length c0_0, .slice A0_1 l0_1.length c0_1], .int .i64 a1] rfl (by (try simp only [List.map_toArray,List.map_cons,List.map_nil]);rfl) ?_;(with_reducible refine (impl_slotOfTruck.calls k _ _ l0_0 _ _ l0_1 a1 t435 _ ?side1 ?side2 ?side3 ?side4 A3.out).mono ?_);(case side1 => repeat (exact (Kd.C_below HR0_0.out HB.out)));(case side2 => exact HC0_0.out);(case side3 => repeat (exact (Kd.C_below HR0_1.out HB.out)));(case side4 => exact HC0_1.out);rintro e w9 ⟨rfl,hb⟩;refine ⟨_,rfl, ?_⟩;replace BK434:=am_ (blk_below (by exact BK434.out) hb);replace HB:=am_ (below_step (by exact HB.out) hb);(try clear hb);have hcz10_0:=c2_0 BK434.out;have hcz10_1:=c2_1 BK434.out;have hfz10_0:=blk_frozen BK434.out 0;have hfz10_1:=blk_frozen BK434.out 1) | ((with_reducible refine gate_callee (f:=42) rfl ?_);refine goesL_ (some 12) rfl rfl Try.func42 (by kernel_rfl) rfl #[.agg #[.slice A0_0 l0_0.length c0_0, .slice A0_1 l0_1.length c0_1], .int .i64 a1, .slice none 0 0] rfl (by (try simp only [List.map_toArray,List.map_cons,List.map_nil]);rfl) ?_;(refine (impl_isGateFor.calls k _ _ l0_0 _ _ l0_1 a1 _ _ ([] : List Int) true _ ?side1 ?side2 ?side3 ?side4 ?side5 ?side6 A4.out).mono ?_);(case side1 => repeat (exact (Kd.C_below HR0_0.out HB.out)));(case side2 => exact HC0_0.out);(case side3 => repeat (exact (Kd.C_below HR0_1.out HB.out)));(case side4 => exact HC0_1.out);(case side5 => exact Kd.C_nil _ _);(case side6 => exact Nat.le_refl _);rintro e w11 ⟨rfl,hb⟩;refine ⟨_,rfl, ?_⟩;replace BK434:=am_ (blk_below (by exact BK434.out) hb);replace HB:=am_ (below_step (by exact HB.out) hb);(try clear hb)));go_ret2;exact ⟨by rfl,by exact HB.out⟩
 simp only [Option.some.injEq,Prod.mk.injEq] at H;obtain ⟨rfl,rfl⟩ := H;go_enter Try.func11,Try.ntmps11;go_wp2_with (first | ((with_reducible refine gate_dst (N:=2) rfl ?_);refine box_event ?hg (N:=2) ?hd (cs:=#[.slice A0_0 l0_0.length c0_0, .slice A0_1 l0_1.length c0_1]) (t:=27) ?hr ?_;(case hd => rfl);(case hg => rfl);(case hr => (go_simp;done));intro gb434 hg w12 hbox hb;have BK434:=am_ hbox;have GW434:=am_ (ge_ hg (by exact HB.out));have GE434:=am_ (ge_ hg (by exact HB.out));replace HB:=am_ (below_step (by exact HB.out) hb);clear hb hbox hg;have hcz13_0:=c2_0 BK434.out;have hcz13_1:=c2_1 BK434.out;have hfz13_0:=blk_frozen BK434.out 0;have hfz13_1:=blk_frozen BK434.out 1) | ((with_reducible refine gate_callee (f:=43) rfl ?_);refine goesL_ (some 9) rfl rfl Try.func43 (by kernel_rfl) rfl #[.agg #[.slice A0_0 l0_0.length c0_0, .slice A0_1 l0_1.length c0_1], .int .i64 a1] rfl (by (try simp only [List.map_toArray,List.map_cons,List.map_nil]);rfl) ?_;(with_reducible refine (impl_slotOfTruck.calls k _ _ l0_0 _ _ l0_1 a1 t435 _ ?side1 ?side2 ?side3 ?side4 A3.out).mono ?_);(case side1 => repeat (exact (Kd.C_below HR0_0.out HB.out)));(case side2 => exact HC0_0.out);(case side3 => repeat (exact (Kd.C_below HR0_1.out HB.out)));(case side4 => exact HC0_1.out);rintro e w14 ⟨rfl,hb⟩;refine ⟨_,rfl, ?_⟩;replace BK434:=am_ (blk_below (by exact BK434.out) hb);replace HB:=am_ (below_step (by exact HB.out) hb);(try clear hb);have hcz15_0:=c2_0 BK434.out;have hcz15_1:=c2_1 BK434.out;have hfz15_0:=blk_frozen BK434.out 0;have hfz15_1:=blk_frozen BK434.out 1) | ((with_reducible refine gate_callee (f:=42) rfl ?_);refine goesL_ (some 12) rfl rfl Try.func42 (by kernel_rfl) rfl #[.agg #[.slice A0_0 l0_0.length c0_0, .slice A0_1 l0_1.length c0_1], .int .i64 a1, .slice none 0 0] rfl (by (try simp only [List.map_toArray,List.map_cons,List.map_nil]);rfl) ?_;(refine (impl_isGateFor.calls k _ _ l0_0 _ _ l0_1 a1 _ _ ([] : List Int) true _ ?side1 ?side2 ?side3 ?side4 ?side5 ?side6 A4.out).mono ?_);(case side1 => repeat (exact (Kd.C_below HR0_0.out HB.out)));(case side2 => exact HC0_0.out);(case side3 => repeat (exact (Kd.C_below HR0_1.out HB.out)));(case side4 => exact HC0_1.out);(case side5 => exact Kd.C_nil _ _);(case side6 => exact Nat.le_refl _);rintro e w16 ⟨rfl,hb⟩;refine ⟨_,rfl, ?_⟩;replace BK434:=am_ (blk_below (by exact BK434.out) hb);replace HB:=am_ (below_step (by exact HB.out) hb);(try clear hb)));go_ret2;exact ⟨by rfl,by exact HB.out⟩

/-! ### impl_Gate_drop_1: function 84 -/
def impl_Gate_drop_1.f (a0 : Int) (a1 : Int) : Option (Bool):=some (a0 == a1)
set_option maxHeartbeats 8000000 in
set_option maxRecDepth 100000 in
theorem impl_Gate_drop_1.calls (a0 : Int) (a1 : Int) {G1 : Nat} (r : Bool) (w : World) (hg1 : w.cell? ⟨G1,0,none⟩ = some (.int .i64 a1)) (h : impl_Gate_drop_1.f a0 a1 = some r) :
  Calls Try.prog 84 #[.int .i64 a0, .pointer (some ⟨G1,0,none⟩)] w fun e w' => e = .returned (.bool r) ∧ Below w.heap.size w w':=by
 have HB:=am_ (Below.refl w.heap.size w);have H : (some (a0 == a1)) = some r:=h;clear h;obtain rfl:=Option.some.inj H;go_enter Try.func84,Try.ntmps84;go_wp2;go_ret;exact ⟨by rfl,by exact HB.out⟩

/-! ### slices_DeleteFunc_int: function 83 -/
set_option maxHeartbeats 8000000 in
set_option maxRecDepth 100000 in
open Go.Shelf Go.Lib Go.Sort in
theorem DFO_gives {G : Nat} (x a1 : Int) (W : World) (hg1 : W.cell? ⟨G,0,none⟩ = some (.int .i64 a1)) :
  FnGives Try.prog 84 #[.pointer (some ⟨G,0,none⟩)] #[.int .i64 x] (.bool (decide (x = a1))) W:=by
 show Calls Try.prog 84 #[.int .i64 x, .pointer (some ⟨G,0,none⟩)] W _;go_enter Try.func84,Try.ntmps84;go_wp2;go_ret
 first
  | exact ⟨rfl,0,rfl⟩
  | exact ⟨by by_cases h : x = a1 <;> simp [h],0,rfl⟩
  | exact ⟨rfl,_,rfl⟩
  | exact ⟨by by_cases h : x = a1 <;> simp [h],_,rfl⟩
open Go.Shelf Go.Lib Go.Sort in
theorem DFO_below {w0 w : World} {g n : Nat} {dk : Array Int} {os : Array Obj} (hb0 : Below w0.heap.size w0 w) (hg : w0.heap.size ≤ g) : Below w0.heap.size w0 (grow (putRow (Value.int .i64) (Sort.ahead w n) g 0 dk) os) :=
 hb0.trans ⟨rfl,rfl,rfl,by show w.heap.size ≤ (_ ++ os).size;rw [Array.size_append,size_putRow];show w.heap.size ≤ w.heap.size + _;omega,fun k hk => by
  have hk' : k < w.heap.size:=Nat.lt_of_lt_of_le hk hb0.size;rw [Sort.heap_grow_old _ os (by rw [size_putRow];exact hk')]
  show ((putRow (Value.int .i64) (Sort.ahead w n) g 0 dk).heap)[k]? = w.heap[k]?
  simp only [putRow,mapBlock,Array.getElem?_modify];rw [if_neg (by omega)]
  rfl⟩
open Go.Shelf Go.Lib Go.Sort in
theorem DFO_kept {w : World} {g n : Nat} {dk : Array Int} {os : Array Obj} {S : Nat → Prop} (hs : S g) : Kept w (grow (putRow (Value.int .i64) (Sort.ahead w n) g 0 dk) os) S :=
 ⟨by show w.heap.size ≤ (_ ++ os).size;rw [Array.size_append,size_putRow];show w.heap.size ≤ w.heap.size + _;omega,fun k hk hn => by
  rw [Sort.heap_grow_old _ os (by rw [size_putRow];exact hk)]
  show ((putRow (Value.int .i64) (Sort.ahead w n) g 0 dk).heap)[k]? = w.heap[k]?
  simp only [putRow,mapBlock,Array.getElem?_modify];rw [if_neg (fun h => hn (by subst h;exact hs))]
  rfl⟩
set_option maxHeartbeats 8000000 in
set_option maxRecDepth 100000 in
open Go.Shelf Go.Lib Go.Sort in
theorem slices_DeleteFunc_int.own {P : Nat → Prop} {a1 : Int} {G : Nat} {A0 : Option Addr} {c0 : Nat} {l0 : List Int} {w0 w : World} (hO : Kd.R (Kd.int .i64) 3 w w0.heap.size P (.slice A0 l0.length c0) l0)
  (hG : ¬ P G) (hbox : w.heap[G]? = some (.cells #[.int .i64 a1] 3 (0,0))) (hb0 : Below w0.heap.size w0 w) (hl : 0 < l0.length) :
  Calls Try.prog 83 #[.slice A0 l0.length c0, .func (.func 84) #[] #[.pointer (some ⟨G,0,none⟩)]] w fun e w' => ∃ v1 : Value,e = .returned v1 ∧ Kd.R (Kd.int .i64) 3 w' w0.heap.size P v1 (l0.filter fun x => !decide (x = a1)) ∧ Below w0.heap.size w0 w' ∧ Kept w w' P:=by
 obtain ⟨hlen,hnil | ⟨g,cap,cur,hv,hbase,hg,hn,hcap,hsz,htk⟩⟩ := Kd.own_of_R hO
 ·omega
 injection hv with hv1 _ hv3;subst hv1;subst hv3;have hP : P g:=hO.1 g rfl;have hglt:=blk_lt hg;have hGlt:=blk_lt hbox
 have hne : G ≠ g:=by
  rintro rfl
  exact hG hP
 have hcell : w.cell? ⟨G,0,none⟩ = some (.int .i64 a1):=(blk_cell hbox 0).trans rfl
 have hH : Holds (Value.int .i64) w g 0 l0.toArray:=fun j hj => by
  have hj' : j < l0.length:=hj;have:=Kd.R_cell (0 : Int) hO (j : Int) (by omega) (by omega);rw [Int.toNat_natCast] at this;rw [Nat.zero_add];refine ⟨this.1.trans ?_,this.2⟩
  unfold rdOf
  rw [Int.toNat_natCast,getElem!_pos l0.toArray j hj,List.getElem_toArray,List.getD_eq_getElem?_getD,List.getElem?_eq_getElem hj']
  rfl
 have eg : ∀ args w,(callFunc 84 args).run Try.prog w = .ok (.enter 84 args) w:=enters_of Try.func84 (by kernel_rfl) rfl
 have pa : PredAt Try.prog 84 #[.pointer (some ⟨G,0,none⟩)] (Value.int .i64) (fun x => decide (x = a1)) w:=fun W x hb =>
  DFO_gives x a1 W ((hb.cell (p:=⟨G,0,none⟩) hGlt).trans hcell)
 have po : PredOver Try.prog 84 #[.pointer (some ⟨G,0,none⟩)] (Value.int .i64) (fun x => decide (x = a1)) g 0 l0.toArray.size w:=fun n os dk x _ =>
  DFO_gives x a1 _ (by
   unfold sortWorld
   rw [cell?_grow _ _ _ (by show G < (putRow _ _ _ _ _).heap.size;rw [size_putRow];exact hGlt),cell?_putRow_other _ _ g 0 _ _ (Or.inl hne)]
   exact hcell)
 have con:=Try.slices_DeleteFunc (Value.int .i64) (fun _ => rfl) (fun x => decide (x = a1)) 84 #[.pointer (some ⟨G,0,none⟩)] eg 0 Try.zeroValue3 g 0 c0 l0.toArray w pa po hH (by show l0.length ≤ _;have:=hcap;unfold maxLen at this;omega) hn;change Calls Try.prog 83 #[.slice (some ⟨g,0,none⟩) l0.length c0, .func (.func 84) #[] #[.pointer (some ⟨G,0,none⟩)]] w (fun e w' => e = .returned (.slice (some ⟨g,0,none⟩) (l0.filter fun x => !decide (x = a1)).length c0) ∧ ∃ q,w' = putRow (Value.int .i64) (Sort.ahead w q) g 0 ((l0.filter fun x => !decide (x = a1)) ++ List.replicate (l0.length - (l0.filter fun x => !decide (x = a1)).length) 0).toArray) at con;have hfl : (l0.filter fun x => !decide (x = a1)).length ≤ l0.length:=List.length_filter_le _ _;generalize (l0.filter fun x => !decide (x = a1)) = fl at con hfl ⊢
 have e_ : ∀ X : World,grow X #[] = X:=fun X => by
  unfold grow
  rw [Array.append_empty]
 refine con.mono fun e w' ⟨he,q,hw⟩ => ⟨_,he, ?_, ?_, ?_⟩
 ·subst hw;refine Kd.R_of_own ?_ (fun k hk => by injection hk with hk;subst hk;exact hP);refine ⟨by simp [encs],Or.inr ⟨g,c0,putCells (Value.int .i64) 0 (fl ++ List.replicate (l0.length - fl.length) 0).toArray cur,rfl,hbase, ?_,by omega,hcap,by rw [← hsz];simp [putCells], ?_⟩⟩
  ·simp only [putRow,mapBlock,Array.getElem?_modify,if_true];show (w.heap[g]?).map _ = _;rw [hg];rfl
  apply List.ext_getElem
  ·simp [putCells,encs];omega
  intro j h1 h2;have hj : j < fl.length:=by simpa [encs] using h2
  simp [putCells,encs];rw [if_pos (by omega),List.getElem?_append_left hj,List.getElem?_eq_getElem hj];rfl
 ·subst hw;have:=DFO_below (n:=q) (dk:=(fl ++ List.replicate (l0.length - fl.length) 0).toArray) (os:=#[]) hb0 hbase;rw [e_] at this;exact this
 subst hw;have:=DFO_kept (w:=w) (n:=q) (dk:=(fl ++ List.replicate (l0.length - fl.length) 0).toArray) (os:=#[]) (S:=P) hP;rw [e_] at this;exact this

end Go.Proofs.Ytglfjaaaegfdnaa.PFnBooking
