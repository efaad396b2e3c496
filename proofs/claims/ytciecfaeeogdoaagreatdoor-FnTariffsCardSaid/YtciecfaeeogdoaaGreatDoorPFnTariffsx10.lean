-- Written by a program of this session, over the kit's print (wip/xprint.py)
import Derived.Test.YtciecfaeeogdoaaGreatDoorPFnTariffsx0
import Derived.Test.YtciecfaeeogdoaaGreatDoorPFnTariffsx6
import Derived.Test.YtciecfaeeogdoaaGreatDoorPFnTariffsx9
namespace Go.Proofs.YtciecfaeeogdoaaGreatDoor.PFnTariffs
open Go.RowKit Go.Proofs.YtciecfaeeogdoaaGreatDoorW.PrintWords Go.Proofs.YtciecfaeeogdoaaGreatDoorW.PrintLast Go.Proofs.YtciecfaeeogdoaaGreatDoorW.PrintMore
attribute [local go_sem] max2_int min2_int max_two min_two max_three min_three max_four min_four   -- for this text's walks alone
set_option linter.unusedVariables false
set_option linter.unusedSimpArgs false

/-! ### spec_ParseCharge: function 11 -/
mutual
def spec_ParseCharge.j0 : Nat → ByteArray → List ByteArray → Int → Bool → Option (Int × (List (S45)) × Int × Bool)
 | 0,_,_,_,_ => none
 | k + 1,x0,x4,x5,x32 => if x32 = true then (some (0,([] : List (S45)),0,false)) else (if 0 < (x4.length : Int) then ((spec_l1Read.f k (rdOf ByteArray.empty x4 0)).bind fun bt338 => (if 0 ≤ (wrap64 (x5 - 1)) then (if (wrap64 (x5 - 1)) < (x4.length : Int) then ((spec_l1Read.f k (rdOf ByteArray.empty x4 (wrap64 (x5 - 1)))).bind fun bt341 => (if bt338.2 = true then (spec_ParseCharge.j1 k x0 x4 x5 (!bt341.2) bt338.1 bt341.1) else (spec_ParseCharge.j1 k x0 x4 x5 true bt338.1 bt341.1))) else (none)) else (none))) else (none))
def spec_ParseCharge.j1 : Nat → ByteArray → List ByteArray → Int → Bool → Int → Int → Option (Int × (List (S45)) × Int × Bool)
 | 0,_,_,_,_,_,_ => none
 | k + 1,x0,x4,x5,x60,x337000,x337002 => if x60 = true then (some (0,([] : List (S45)),0,false)) else (spec_ParseCharge.l0 k x0 x4 x5 2 x337000 ([] : List (S45)) x337002)
def spec_ParseCharge.l0 : Nat → ByteArray → List ByteArray → Int → Int → Int → List (S45) → Int → Option (Int × (List (S45)) × Int × Bool)
 | 0,_,_,_,_,_,_,_ => none
 | k + 1,x0,x4,x5,x11,x337000,x337001,x337002 => if (wrap64 (x11 + 2)) < x5 then (if 0 ≤ (wrap64 (x11 + 2)) then (if (wrap64 (x11 + 2)) < (x4.length : Int) then (if ((rdOf ByteArray.empty x4 (wrap64 (x11 + 2))).size : Int) < 2 then (some (0,([] : List (S45)),0,false)) else (if 0 ≤ x11 then (if x11 < (x4.length : Int) then ((spec_l1Read.f k (rdOf ByteArray.empty x4 x11)).bind fun bt347 => (if 0 ≤ (wrap64 (((rdOf ByteArray.empty x4 (wrap64 (x11 + 2))).size : Int) - 1)) then (if (wrap64 (((rdOf ByteArray.empty x4 (wrap64 (x11 + 2))).size : Int) - 1)) ≤ ((rdOf ByteArray.empty x4 (wrap64 (x11 + 2))).size : Int) then ((spec_l1Read.f k ((rdOf ByteArray.empty x4 (wrap64 (x11 + 2))).extract 0 ((wrap64 (((rdOf ByteArray.empty x4 (wrap64 (x11 + 2))).size : Int) - 1)) : Int).toNat)).bind fun bt351 => (if bt347.2 = true then (if bt351.2 = true then (if x337001.length < 8796093022208 then (spec_ParseCharge.l0 k x0 x4 x5 (wrap64 (x11 + 3)) x337000 (x337001 ++ [(⟨bt347.1,bt351.1⟩ : S45)]) x337002) else (none)) else (some (0,([] : List (S45)),0,false))) else (some (0,([] : List (S45)),0,false)))) else (none)) else (none))) else (none)) else (none))) else (none)) else (none)) else ((spec_ChargeText.f k x337000 x337001 x337002).bind fun bt343 => (if bt343.2 = true then (if bt343.1.toList = x0.toList then (some (x337000,x337001,x337002,true)) else (some (0,([] : List (S45)),0,false))) else (some (0,([] : List (S45)),0,false))))
end
def spec_ParseCharge.f (k : Nat) (a0 : ByteArray) : Option (Int × (List (S45)) × Int × Bool):=if (a0.size : Int) > 200 then (some (0,([] : List (S45)),0,false)) else ((spec_l1Split.f k a0 32).bind fun t333 => (if (t333.length : Int) < 7 then (spec_ParseCharge.j0 k a0 t333 (t333.length : Int) true) else (spec_ParseCharge.j0 k a0 t333 (t333.length : Int) (((t333.length : Int) % 3) != 1))))
theorem spec_ParseCharge.mono_l : ∀ k,(∀ y0 y1 y2 y3,LeO (spec_ParseCharge.j0 k y0 y1 y2 y3) (spec_ParseCharge.j0 (k + 1) y0 y1 y2 y3)) ∧ (∀ y0 y1 y2 y3 y4 y5,LeO (spec_ParseCharge.j1 k y0 y1 y2 y3 y4 y5) (spec_ParseCharge.j1 (k + 1) y0 y1 y2 y3 y4 y5)) ∧ (∀ y0 y1 y2 y3 y4 y5 y6,LeO (spec_ParseCharge.l0 k y0 y1 y2 y3 y4 y5 y6) (spec_ParseCharge.l0 (k + 1) y0 y1 y2 y3 y4 y5 y6))
 | 0 => ⟨fun _ _ _ _ r h => by simp [spec_ParseCharge.j0] at h,fun _ _ _ _ _ _ r h => by simp [spec_ParseCharge.j1] at h,fun _ _ _ _ _ _ _ r h => by simp [spec_ParseCharge.l0] at h⟩
 | k + 1 => by
  obtain ⟨ih0,ih1,ih2⟩ := spec_ParseCharge.mono_l k;refine ⟨?_, ?_, ?_⟩
  ·intro y0 y1 y2 y3
   unfold spec_ParseCharge.j0
   repeat' first
   | (with_reducible exact ih0 _ _ _ _)
   | (with_reducible exact ih1 _ _ _ _ _ _)
   | (with_reducible exact ih2 _ _ _ _ _ _ _)
   | (with_reducible exact spec_ChargeText.mono _ _ _ _)
   | (with_reducible exact spec_l1Read.mono _ _)
   | (with_reducible exact spec_l1Split.mono _ _ _)
   | (with_reducible exact LeO.refl _)
   | (with_reducible exact LeO.none _)
   | (with_reducible refine LeO.ite ?_ ?_)
   | (with_reducible refine LeO.bind ?_ (fun _ => ?_))
   | exact ih0 _ _ _ _
   | exact ih1 _ _ _ _ _ _
   | exact ih2 _ _ _ _ _ _ _
   | exact spec_ChargeText.mono _ _ _ _
   | exact spec_l1Read.mono _ _
   | exact spec_l1Split.mono _ _ _
   | exact LeO.none _
   | refine LeO.ite ?_ ?_
   | refine LeO.bind ?_ (fun _ => ?_)
  ·intro y0 y1 y2 y3 y4 y5
   unfold spec_ParseCharge.j1
   repeat' first
   | (with_reducible exact ih0 _ _ _ _)
   | (with_reducible exact ih1 _ _ _ _ _ _)
   | (with_reducible exact ih2 _ _ _ _ _ _ _)
   | (with_reducible exact spec_ChargeText.mono _ _ _ _)
   | (with_reducible exact spec_l1Read.mono _ _)
   | (with_reducible exact spec_l1Split.mono _ _ _)
   | (with_reducible exact LeO.refl _)
   | (with_reducible exact LeO.none _)
   | (with_reducible refine LeO.ite ?_ ?_)
   | (with_reducible refine LeO.bind ?_ (fun _ => ?_))
   | exact ih0 _ _ _ _
   | exact ih1 _ _ _ _ _ _
   | exact ih2 _ _ _ _ _ _ _
   | exact spec_ChargeText.mono _ _ _ _
   | exact spec_l1Read.mono _ _
   | exact spec_l1Split.mono _ _ _
   | exact LeO.none _
   | refine LeO.ite ?_ ?_
   | refine LeO.bind ?_ (fun _ => ?_)
  ·intro y0 y1 y2 y3 y4 y5 y6
   unfold spec_ParseCharge.l0
   repeat' first
   | (with_reducible exact ih0 _ _ _ _)
   | (with_reducible exact ih1 _ _ _ _ _ _)
   | (with_reducible exact ih2 _ _ _ _ _ _ _)
   | (with_reducible exact spec_ChargeText.mono _ _ _ _)
   | (with_reducible exact spec_l1Read.mono _ _)
   | (with_reducible exact spec_l1Split.mono _ _ _)
   | (with_reducible exact LeO.refl _)
   | (with_reducible exact LeO.none _)
   | (with_reducible refine LeO.ite ?_ ?_)
   | (with_reducible refine LeO.bind ?_ (fun _ => ?_))
   | exact ih0 _ _ _ _
   | exact ih1 _ _ _ _ _ _
   | exact ih2 _ _ _ _ _ _ _
   | exact spec_ChargeText.mono _ _ _ _
   | exact spec_l1Read.mono _ _
   | exact spec_l1Split.mono _ _ _
   | exact LeO.none _
   | refine LeO.ite ?_ ?_
   | refine LeO.bind ?_ (fun _ => ?_)
theorem spec_ParseCharge.mono : ∀ a0 k,LeO (spec_ParseCharge.f k a0) (spec_ParseCharge.f (k + 1) a0):=by
 intro a0 k;obtain ⟨ih0,ih1,ih2⟩ := spec_ParseCharge.mono_l k
 unfold spec_ParseCharge.f
 repeat' first
   | (with_reducible exact ih0 _ _ _ _)
   | (with_reducible exact ih1 _ _ _ _ _ _)
   | (with_reducible exact ih2 _ _ _ _ _ _ _)
   | (with_reducible exact spec_ChargeText.mono _ _ _ _)
   | (with_reducible exact spec_l1Read.mono _ _)
   | (with_reducible exact spec_l1Split.mono _ _ _)
   | (with_reducible exact LeO.refl _)
   | (with_reducible exact LeO.none _)
   | (with_reducible refine LeO.ite ?_ ?_)
   | (with_reducible refine LeO.bind ?_ (fun _ => ?_))
   | exact ih0 _ _ _ _
   | exact ih1 _ _ _ _ _ _
   | exact ih2 _ _ _ _ _ _ _
   | exact spec_ChargeText.mono _ _ _ _
   | exact spec_l1Read.mono _ _
   | exact spec_l1Split.mono _ _ _
   | exact LeO.none _
   | refine LeO.ite ?_ ?_
   | refine LeO.bind ?_ (fun _ => ?_)
def spec_ParseCharge.T20 : Bool × List (List Nat × List Nat):=(true,[([],[]),([],[]),([1],[1]),([0,2],[0,2]),([3],[3]),([],[]),([],[]),([6],[6]),([5,7],[5,7]),([8],[8]),([9],[9]),([10],[10]),([4,11],[4,11]),([12],[12]),([13],[13]),([14],[14]),([14],[14]),([15,13,0,1,2,3,4,5,6,7,8,9,10,11,12,13,14,15],[15]),([16,17,0,1,2,3,4,5,6,7,8,9,10,11,12,13,14,15,16,17],[16])])
def spec_ParseCharge.B20 : List Nat := [0,0,2,7,15,0,0,64,224,480,992,2016,4095,8191,16383,32767,32767,65535,262143]
theorem spec_ParseCharge.tab20 : rtab .any (opsOf Tryz.f11 20) = spec_ParseCharge.T20:=by kernel_rfl
theorem spec_ParseCharge.bits20 : waitsOk spec_ParseCharge.T20.2 spec_ParseCharge.B20 = true:=by kernel_rfl
set_option maxHeartbeats 8000000 in
set_option maxRecDepth 100000 in
theorem spec_ParseCharge.calls (k : Nat) (a0 : ByteArray) (r1 : Int) (r2 : List (S45)) (r3 : Int) (r4 : Bool) (w : World) (h : spec_ParseCharge.f k a0 = some (r1,r2,r3,r4)) :
  Calls Tryz.prog 11 #[.string a0] w fun e w' => ∃ v1_ : Value,e = .returned (.tuple #[.agg #[.int .i64 r1,v1_, .int .i64 r3], .bool r4]) ∧ Kd.R k45 45 w' w.heap.size (fun _ => True) v1_ r2 ∧ Below w.heap.size w w':=by
 have hu26:=Tryz.underlying26;have hu45:=Tryz.underlying45;have HB:=am_ (Below.refl w.heap.size w);have H : (if (a0.size : Int) > 200 then (some (0,([] : List (S45)),0,false)) else ((spec_l1Split.f k a0 32).bind fun t333 => (if (t333.length : Int) < 7 then (spec_ParseCharge.j0 k a0 t333 (t333.length : Int) true) else (spec_ParseCharge.j0 k a0 t333 (t333.length : Int) (((t333.length : Int) % 3) != 1))))) = some (r1,r2,r3,r4):=h;clear h
 by_cases c2 : (a0.size : Int) > 200
 ·rw [if_pos c2] at H;have c2b0 : decide (200 < (a0.size : Int)) = true:=decide_eq_true c2;have c2b1 : decide (200 < a0.size) = true:=decide_eq_true (by omega);clear c2;simp only [Option.some.injEq,Prod.mk.injEq] at H;obtain ⟨rfl,rfl,rfl,rfl⟩ := H
  go_enter Tryz.func11,Tryz.ntmps11
  go_wp2_with (((with_reducible refine gate_dst (N:=2) rfl ?_);refine box_event ?hg (N:=2) ?hd (cs:=#[.int .i64 0, .slice none 0 0, .int .i64 0]) (t:=26) ?hr ?_;(case hd => rfl);(case hg => rfl);(case hr => (go_simp;done));intro gb332 hg w3 hbox hb;have n0_:=am_ (below_step (by exact HB.out) hb);have n1_:=am_ hbox;have n2_:=am_ (ge_ hg (by exact HB.out));have n3_:=am_ (ge_ hg (by exact HB.out));clear HB;have HB:=n0_;have BK332:=n1_;have GW332:=n2_;have GE332:=n3_;clear n0_ n1_ n2_ n3_;clear hb hbox hg;have hcz4_0:=c3_0 BK332.out;have hcz4_1:=c3_1 BK332.out;have hcz4_2:=c3_2 BK332.out;have hfz4_0:=blk_frozen BK332.out 0;have hfz4_1:=blk_frozen BK332.out 1;have hfz4_2:=blk_frozen BK332.out 2))
  refine bodyPost_ret (results_ct rfl _ _ gb332 26 #[.int .i64 0, .slice none 0 0, .int .i64 0] (0,0) _ rfl (by refine blk_put (cs:=#[.int .i64 0, .slice none 0 0, .int .i64 0]) ?_ 2 _ rfl;refine blk_put (cs:=#[.int .i64 0, .slice none 0 0, .int .i64 0]) ?_ 1 _ rfl;refine blk_put (cs:=#[.int .i64 0, .slice none 0 0, .int .i64 0]) ?_ 0 _ rfl;exact BK332.out) Tryz.underlying26 rfl (by kernel_rfl)) rfl ?_
  exact ⟨_,by rfl,by exact Kd.R_nil _ _ _ _ _,by repeat ((with_reducible first | exact HB.out | refine below_set ?_ GE332.out))⟩
 ·rw [if_neg c2] at H;have c2b0 : decide (200 < (a0.size : Int)) = false:=decide_eq_false c2;have c2b1 : decide (200 < a0.size) = false:=decide_eq_false (by omega);clear c2;replace H:=Option.bind_eq_some_iff.mp H;obtain ⟨t333,A50,H⟩ := H;replace H : (if (t333.length : Int) < 7 then (spec_ParseCharge.j0 k a0 t333 (t333.length : Int) true) else (spec_ParseCharge.j0 k a0 t333 (t333.length : Int) (((t333.length : Int) % 3) != 1))) = some (r1,r2,r3,r4):=H;have A5:=am_ A50;clear A50;have HC6:=am_ H;clear H
  go_enter Tryz.func11,Tryz.ntmps11
  go_upto_region 5 with (first | ((with_reducible refine gate_dst (N:=2) rfl ?_);refine box_event ?hg (N:=2) ?hd (cs:=#[.int .i64 0, .slice none 0 0, .int .i64 0]) (t:=26) ?hr ?_;(case hd => rfl);(case hg => rfl);(case hr => (go_simp;done));intro gb332 hg w7 hbox hb;have n0_:=am_ (below_step (by exact HB.out) hb);have n1_:=am_ hbox;have n2_:=am_ (ge_ hg (by exact HB.out));have n3_:=am_ (ge_ hg (by exact HB.out));clear HB;have HB:=n0_;have BK332:=n1_;have GW332:=n2_;have GE332:=n3_;clear n0_ n1_ n2_ n3_;clear hb hbox hg) | ((with_reducible refine gate_callee (f:=31) rfl ?_);refine goesL_ (some 23) rfl rfl Tryz.func31 (by kernel_rfl) rfl #[.string a0, .int .u8 32] rfl (by (try simp only [List.map_toArray,List.map_cons,List.map_nil]);rfl) ?_;(with_reducible refine (spec_l1Split.calls k a0 32 t333 _ A5.out).mono ?_);rintro e w8 ⟨v334,rfl,ho0,hb⟩;refine ⟨_,rfl, ?_⟩;have n0_:=am_ (Kd.R_lower ho0 (below_size (by exact HB.out)));have n1_:=am_ (blk_below (by exact BK332.out) hb);have n2_:=am_ (below_step (by exact HB.out) hb);clear BK332;clear HB;have HO335:=n0_;have BK332:=n1_;have HB:=n2_;clear n0_ n1_ n2_;(try clear hb);(try clear ho0);obtain ⟨Ao9,co9,eo9⟩ := Kd.R_slice HO335.out;subst eo9))
  (skip)
  go_cut [32] (fun v32 wc => ∃ (kq : Nat) (x32_5 : Bool),v32 = .bool x32_5 ∧ Aside0 (spec_ParseCharge.j0 kq a0 t333 (t333.length : Int) x32_5 = some (r1,r2,r3,r4)) ∧ Aside0 (kq ≤ k) ∧ Aside0 (Kd.R Kd.string 9 wc w.heap.size (fun _ => True) (.slice Ao9 t333.length co9) t333) ∧ Aside0 (wc.heap[gb332]? = some (.cells #[.int .i64 0,(.slice none 0 0), .int .i64 0] 26 (0,0))) ∧ Aside0 (Below w.heap.size w wc))
  case first =>
   have H:=HC6.out;clear HC6
   by_cases c10 : (t333.length : Int) < 7
   ·rw [if_pos c10] at H;have c10b0 : decide ((t333.length : Int) < 7) = true:=decide_eq_true c10;have c10b1 : decide (t333.length < 7) = true:=decide_eq_true (by omega);clear c10
    (skip)
    have H':=am_ H;clear H
    go_wp2
    go_meet
    case rel => exact ⟨_,(true),(by rfl),H',⟨by omega⟩,⟨by exact HO335.out⟩,⟨by exact BK332.out⟩,⟨by exact HB.out⟩⟩
   ·rw [if_neg c10] at H;have c10b0 : decide ((t333.length : Int) < 7) = false:=decide_eq_false c10;have c10b1 : decide (t333.length < 7) = false:=decide_eq_false (by omega);clear c10
    (skip)
    have H':=am_ H;clear H
    go_wp2
    go_meet
    case rel => exact ⟨_,((((t333.length : Int) % 3) != 1)),(by rfl),H',⟨by omega⟩,⟨by exact HO335.out⟩,⟨by exact BK332.out⟩,⟨by exact HB.out⟩⟩
  case rest =>
   clear HC6;(try clear c1);(try clear c2);(try clear c2b0);(try clear c2b1);(try clear p2);(try clear c3);(try clear c10);(try clear c10b0);(try clear c10b1);(try clear hcz4_0);(try clear hcz4_1);(try clear hcz4_2);(try clear hfz4_0);(try clear hfz4_1);(try clear hfz4_2);obtain ⟨kq,x32_5,rfl,HA,HJ5,HO_4,BK332,HB⟩ := hcut
   cases kq with
   | zero => exact absurd HA.out (by simp [spec_ParseCharge.j0])
   | succ kj5 =>
    have H:=HA.out;clear HA;simp only [spec_ParseCharge.j0] at H
    by_cases c11 : x32_5 = true
    ·subst c11
     have H1 : (some (0,([] : List (S45)),0,false)) = some (r1,r2,r3,r4):=by rw [if_pos rfl] at H;exact H
     clear H;have H:=H1;clear H1;simp only [Option.some.injEq,Prod.mk.injEq] at H;obtain ⟨rfl,rfl,rfl,rfl⟩ := H;have hcz12_0:=c3_0 BK332.out;have hcz12_1:=c3_1 BK332.out;have hcz12_2:=c3_2 BK332.out;have hfz12_0:=blk_frozen BK332.out 0;have hfz12_1:=blk_frozen BK332.out 1;have hfz12_2:=blk_frozen BK332.out 2
     go_wp2
     refine bodyPost_ret (results_ct rfl _ _ gb332 26 #[.int .i64 0, .slice none 0 0, .int .i64 0] (0,0) _ rfl (by refine blk_put (cs:=#[.int .i64 0, .slice none 0 0, .int .i64 0]) ?_ 2 _ rfl;refine blk_put (cs:=#[.int .i64 0, .slice none 0 0, .int .i64 0]) ?_ 1 _ rfl;refine blk_put (cs:=#[.int .i64 0, .slice none 0 0, .int .i64 0]) ?_ 0 _ rfl;exact BK332.out) Tryz.underlying26 rfl (by kernel_rfl)) rfl ?_
     exact ⟨_,by rfl,by exact Kd.R_nil _ _ _ _ _,by repeat ((with_reducible first | exact HB.out | refine below_set ?_ GE332.out))⟩
    ·replace c11:=Bool.eq_false_iff.mpr c11;subst c11
     have H1 : (if 0 < (t333.length : Int) then ((spec_l1Read.f kj5 (rdOf ByteArray.empty t333 0)).bind fun bt338 => (if 0 ≤ (wrap64 ((t333.length : Int) - 1)) then (if (wrap64 ((t333.length : Int) - 1)) < (t333.length : Int) then ((spec_l1Read.f kj5 (rdOf ByteArray.empty t333 (wrap64 ((t333.length : Int) - 1)))).bind fun bt341 => (if bt338.2 = true then (spec_ParseCharge.j1 kj5 a0 t333 (t333.length : Int) (!bt341.2) bt338.1 bt341.1) else (spec_ParseCharge.j1 kj5 a0 t333 (t333.length : Int) true bt338.1 bt341.1))) else (none)) else (none))) else (none)) = some (r1,r2,r3,r4):=by rw [if_neg (show ¬ (false = true) by decide)] at H;exact H
     clear H;have H:=H1;clear H1
     by_cases c13 : 0 < (t333.length : Int)
     ·rw [if_pos c13] at H;have c13b0 : decide (0 < (t333.length : Int)) = true:=decide_eq_true c13;have c13b1 : decide (0 < t333.length) = true:=decide_eq_true (by omega);clear c13;replace H:=Option.bind_eq_some_iff.mp H;obtain ⟨⟨t338,t339⟩,A140,H⟩ := H;replace H : (if 0 ≤ (wrap64 ((t333.length : Int) - 1)) then (if (wrap64 ((t333.length : Int) - 1)) < (t333.length : Int) then ((spec_l1Read.f kj5 (rdOf ByteArray.empty t333 (wrap64 ((t333.length : Int) - 1)))).bind fun bt341 => (if t339 = true then (spec_ParseCharge.j1 kj5 a0 t333 (t333.length : Int) (!bt341.2) t338 bt341.1) else (spec_ParseCharge.j1 kj5 a0 t333 (t333.length : Int) true t338 bt341.1))) else (none)) else (none)) = some (r1,r2,r3,r4):=H;have A14:=am_ A140;clear A140;obtain ⟨ji15,hji15⟩ : ∃ j_ : Int,(wrap64 ((t333.length : Int) - 1)) = j_:=⟨_,rfl⟩
      replace H : (if 0 ≤ (ji15) then (if (ji15) < (t333.length : Int) then ((spec_l1Read.f kj5 (rdOf ByteArray.empty t333 (ji15))).bind fun bt341 => (if t339 = true then (spec_ParseCharge.j1 kj5 a0 t333 (t333.length : Int) (!bt341.2) t338 bt341.1) else (spec_ParseCharge.j1 kj5 a0 t333 (t333.length : Int) true t338 bt341.1))) else (none)) else (none)) = some (r1,r2,r3,r4):=by (rw [hji15] at H;exact H)
      (skip)
      have hji15w : (IntKind.i64.wrap ((t333.length : Int) - 1)) = ji15:=(i64_w _).trans hji15
      by_cases c16 : 0 ≤ (ji15)
      ·rw [if_pos c16] at H;have c16b0 : decide (0 ≤ (ji15)) = true:=decide_eq_true c16;clear c16
       by_cases c17 : (ji15) < (t333.length : Int)
       ·rw [if_pos c17] at H;have c17b0 : decide ((ji15) < (t333.length : Int)) = true:=decide_eq_true c17;clear c17;replace H:=Option.bind_eq_some_iff.mp H;obtain ⟨⟨t341,t342⟩,A180,H⟩ := H;replace H : (if t339 = true then (spec_ParseCharge.j1 kj5 a0 t333 (t333.length : Int) (!t342) t338 t341) else (spec_ParseCharge.j1 kj5 a0 t333 (t333.length : Int) true t338 t341)) = some (r1,r2,r3,r4):=H;have A18:=am_ A180;clear A180;have HC19:=am_ H;clear H
        go_upto_region 12 with (first | ((with_reducible refine gate_dst (N:=6) rfl ?_);refine box_event ?hg (N:=6) ?hd (cs:=#[.int .i64 0, .slice none 0 0, .int .i64 0]) (t:=26) ?hr ?_;(case hd => rfl);(case hg => rfl);(case hr => (go_simp;done));intro gb336 hg w20 hbox hb;have n0_:=am_ (Kd.R_below (by exact HO_4.out) hb);have n1_:=am_ (blk_below (by exact BK332.out) hb);have n2_:=am_ (below_step (by exact HB.out) hb);have n3_:=am_ hbox;have n4_:=am_ (ge_ hg (by exact HB.out));have n5_:=am_ (ge_ hg (by exact HB.out));have n6_:=am_ (nl_ hg (by exact BK332.out));have n7_:=am_ (ng_ hg (by exact BK332.out));clear HO_4;clear BK332;clear HB;have HO_4:=n0_;have BK332:=n1_;have HB:=n2_;have BK336:=n3_;have GW336:=n4_;have GE336:=n5_;have NB332_336:=n6_;have NB336_332:=n7_;clear n0_ n1_ n2_ n3_ n4_ n5_ n6_ n7_;clear hb hbox hg;have hnb21:=NB336_332.out;have hnc21:=NB332_336.out;have hcz22_0:=c3_0 BK336.out;have hcz22_1:=c3_1 BK336.out;have hcz22_2:=c3_2 BK336.out;have hfz22_0:=blk_frozen BK336.out 0;have hfz22_1:=blk_frozen BK336.out 1;have hfz22_2:=blk_frozen BK336.out 2;have p337 : 0 ≤ (0 : Int):=(by omega);have q337 : 0 < (t333.length : Int):=of_decide_eq_true (by (with_reducible assumption));obtain ⟨ad337,e337,hx337_0⟩ := Kd.at_string (Kd.R_reads' HO_4.out).2.2 0 p337 q337;cases e337;have qi337 : (0 < t333.length) = True:=eq_true (by omega);(try rw [show ((0 : Int)).toNat = 0 from rfl] at hx337_0);(try rw [Addr.add_zero'] at hx337_0);have hn337_0 : ad337.block ≠ gb336:=Kd.own_blk (Kd.R_ne HO_4.out BK336.out (by decide));have hn337_1 : ad337.block ≠ gb336:=Kd.own_blk (Kd.R_ne HO_4.out BK336.out (by decide));have hn337_2 : ad337.block ≠ gb336:=Kd.own_blk (Kd.R_ne HO_4.out BK336.out (by decide));replace hx337_0:=(cell_far (p:=⟨gb336,0,none⟩) (by exact hn337_0) (.int .i64 0)).trans hx337_0;replace hx337_0:=(cell_far (p:=⟨gb336,1,none⟩) (by exact hn337_1) (.slice none 0 0)).trans hx337_0;replace hx337_0:=(cell_far (p:=⟨gb336,2,none⟩) (by exact hn337_2) (.int .i64 0)).trans hx337_0;clear hn337_0;clear hn337_1;clear hn337_2;replace p337:=eq_true p337;replace q337:=eq_true q337) | ((with_reducible refine gate_callee (f:=32) rfl ?_);refine goesL_ (some 39) rfl rfl Tryz.func32 (by kernel_rfl) rfl #[.string (rdOf ByteArray.empty t333 0)] rfl (by (try simp only [List.map_toArray,List.map_cons,List.map_nil]);rfl) ?_;(with_reducible refine (spec_l1Read.calls kj5 (rdOf ByteArray.empty t333 0) t338 t339 _ A14.out).mono ?_);rintro e w23 ⟨rfl,hb⟩;refine ⟨_,rfl, ?_⟩;have n0_:=am_ (Kd.R_below (by exact (Kd.R_mono (rf3_ (Kd.R_types HO_4.out BK336.out (by decide)) (.int .i64 0) (.slice none 0 0) (.int .i64 0)) (fun _ h_ => h_.1))) hb);have n1_:=am_ (blk_below (g:=gb332) (o := .cells #[.int .i64 0, .slice none 0 0, .int .i64 0] 26 (0,0)) (by refine blk_far ?_ NB332_336.out _;refine blk_far ?_ NB332_336.out _;refine blk_far ?_ NB332_336.out _;exact BK332.out) hb);have n2_:=am_ (blk_below (g:=gb336) (o := .cells #[.int .i64 0, .slice none 0 0, .int .i64 0] 26 (0,0)) (by refine blk_put (cs:=#[.int .i64 0, .slice none 0 0, .int .i64 0]) ?_ 2 _ rfl;refine blk_put (cs:=#[.int .i64 0, .slice none 0 0, .int .i64 0]) ?_ 1 _ rfl;refine blk_put (cs:=#[.int .i64 0, .slice none 0 0, .int .i64 0]) ?_ 0 _ rfl;exact BK336.out) hb);have n3_:=am_ (below_step (by repeat ((with_reducible first | exact HB.out | refine below_set ?_ GE336.out))) hb);clear HO_4;clear BK332;clear BK336;clear HB;have HO_4:=n0_;have BK332:=n1_;have BK336:=n2_;have HB:=n3_;clear n0_ n1_ n2_ n3_;(try clear hb);have p340 : 0 ≤ ((ji15) : Int):=of_decide_eq_true (by (with_reducible assumption));have q340 : (ji15) < (t333.length : Int):=of_decide_eq_true (by (with_reducible assumption));obtain ⟨ad340,e340,hx340_0⟩ := Kd.at_string (Kd.R_reads' HO_4.out).2.2 (ji15) p340 q340;obtain rfl : ad337 = ad340:=(by injection e340);replace p340:=eq_true p340;replace q340:=eq_true q340) | ((with_reducible refine gate_callee (f:=32) rfl ?_);refine goesL_ (some 48) rfl rfl Tryz.func32 (by kernel_rfl) rfl #[.string (rdOf ByteArray.empty t333 (ji15))] rfl (by (try simp only [List.map_toArray,List.map_cons,List.map_nil]);rfl) ?_;(with_reducible refine (spec_l1Read.calls kj5 (rdOf ByteArray.empty t333 (ji15)) t341 t342 _ A18.out).mono ?_);rintro e w24 ⟨rfl,hb⟩;refine ⟨_,rfl, ?_⟩;have n0_:=am_ (Kd.R_below (by exact HO_4.out) hb);have n1_:=am_ (blk_below (by exact BK332.out) hb);have n2_:=am_ (blk_below (by exact BK336.out) hb);have n3_:=am_ (below_step (by exact HB.out) hb);clear HO_4;clear BK332;clear BK336;clear HB;have HO_4:=n0_;have BK332:=n1_;have BK336:=n2_;have HB:=n3_;clear n0_ n1_ n2_ n3_;(try clear hb);have hcz25_0:=c3_0 BK336.out;have hcz25_1:=c3_1 BK336.out;have hcz25_2:=c3_2 BK336.out;have hfz25_0:=blk_frozen BK336.out 0;have hfz25_1:=blk_frozen BK336.out 1;have hfz25_2:=blk_frozen BK336.out 2))
        (skip)
        go_cut [60] (fun v60 wc => ∃ (kq : Nat) (x60_18 : Bool),v60 = .bool x60_18 ∧ Aside0 (spec_ParseCharge.j1 kq a0 t333 (t333.length : Int) x60_18 t338 t341 = some (r1,r2,r3,r4)) ∧ Aside0 (kq ≤ kj5) ∧ Aside0 (Kd.R Kd.string 9 wc w.heap.size (fun _ => True) (.slice (some ad337) t333.length co9) t333) ∧ Aside0 (wc.heap[gb332]? = some (.cells #[.int .i64 0,(.slice none 0 0), .int .i64 0] 26 (0,0))) ∧ Aside0 (wc.heap[gb336]? = some (.cells #[.int .i64 t338,(.slice none 0 0), .int .i64 t341] 26 (0,0))) ∧ Aside0 (Below w.heap.size w wc))
        case first =>
         have H:=HC19.out;clear HC19
         by_cases c26 : t339 = true
         ·subst c26
          have H1 : (spec_ParseCharge.j1 kj5 a0 t333 (t333.length : Int) (!t342) t338 t341) = some (r1,r2,r3,r4):=by rw [if_pos rfl] at H;exact H
          clear H;have H:=H1;clear H1;have H':=am_ H;clear H
          go_wp2
          go_meet
          case rel => exact ⟨_,(!t342),(by rfl),H',⟨by have:=HJ5.out;omega⟩,⟨by exact Kd.R_mono (Kd.R_far (p:=⟨gb336,2,none⟩) (Kd.R_far (p:=⟨gb336,0,none⟩) (Kd.R_types HO_4.out BK336.out (by decide)) (fun _ hk => hk.2) (.int .i64 t338)) (fun _ hk => hk.2) (.int .i64 t341)) (fun _ hk => trivial)⟩,⟨by refine blk_far ?_ NB332_336.out _;refine blk_far ?_ NB332_336.out _;exact BK332.out⟩,⟨by refine blk_put (cs:=#[.int .i64 t338, .slice none 0 0, .int .i64 0]) ?_ 2 _ rfl;refine blk_put (cs:=#[.int .i64 0, .slice none 0 0, .int .i64 0]) ?_ 0 _ rfl;exact BK336.out⟩,⟨by repeat ((with_reducible first | exact HB.out | refine below_set ?_ GE336.out))⟩⟩
         ·replace c26:=Bool.eq_false_iff.mpr c26;subst c26
          have H1 : (spec_ParseCharge.j1 kj5 a0 t333 (t333.length : Int) true t338 t341) = some (r1,r2,r3,r4):=by rw [if_neg (show ¬ (false = true) by decide)] at H;exact H
          clear H;have H:=H1;clear H1;have H':=am_ H;clear H
          go_wp2
          go_meet
          case rel => exact ⟨_,(true),(by rfl),H',⟨by have:=HJ5.out;omega⟩,⟨by exact Kd.R_mono (Kd.R_far (p:=⟨gb336,2,none⟩) (Kd.R_far (p:=⟨gb336,0,none⟩) (Kd.R_types HO_4.out BK336.out (by decide)) (fun _ hk => hk.2) (.int .i64 t338)) (fun _ hk => hk.2) (.int .i64 t341)) (fun _ hk => trivial)⟩,⟨by refine blk_far ?_ NB332_336.out _;refine blk_far ?_ NB332_336.out _;exact BK332.out⟩,⟨by refine blk_put (cs:=#[.int .i64 t338, .slice none 0 0, .int .i64 0]) ?_ 2 _ rfl;refine blk_put (cs:=#[.int .i64 0, .slice none 0 0, .int .i64 0]) ?_ 0 _ rfl;exact BK336.out⟩,⟨by repeat ((with_reducible first | exact HB.out | refine below_set ?_ GE336.out))⟩⟩
        case rest =>
         clear HC19;(try clear c1);(try clear c2);(try clear c2b0);(try clear c2b1);(try clear p2);(try clear c3);(try clear p3);(try clear q3);(try clear hx3);(try clear qi3);(try clear p6);(try clear c10);(try clear c10b0);(try clear c10b1);(try clear c11);(try clear c13);(try clear c13b0);(try clear c13b1);(try clear c16);(try clear c16b0);(try clear c17);(try clear c17b0);(try clear c21);(try clear c26);(try clear hcz12_0);(try clear hcz12_1);(try clear hcz12_2);(try clear hcz22_0);(try clear hcz22_1);(try clear hcz22_2);(try clear hcz25_0);(try clear hcz25_1);(try clear hcz25_2);(try clear hcz4_0);(try clear hcz4_1);(try clear hcz4_2);(try clear hfz12_0);(try clear hfz12_1);(try clear hfz12_2);(try clear hfz22_0);(try clear hfz22_1);(try clear hfz22_2);(try clear hfz25_0);(try clear hfz25_1);(try clear hfz25_2);(try clear hfz4_0);(try clear hfz4_1);(try clear hfz4_2);(try clear hx337_0);(try clear hx340_0);(try clear p2);(try clear p337);(try clear p340);(try clear q337);(try clear q340);obtain ⟨kq,x60_18,rfl,HA,HJ18,HO_4,BK332,BK336,HB⟩ := hcut
         cases kq with
         | zero => exact absurd HA.out (by simp [spec_ParseCharge.j1])
         | succ kj18 =>
          have H:=HA.out;clear HA;simp only [spec_ParseCharge.j1] at H
          by_cases c27 : x60_18 = true
          ·subst c27
           have H1 : (some (0,([] : List (S45)),0,false)) = some (r1,r2,r3,r4):=by rw [if_pos rfl] at H;exact H
           clear H;have H:=H1;clear H1;simp only [Option.some.injEq,Prod.mk.injEq] at H;obtain ⟨rfl,rfl,rfl,rfl⟩ := H;have hnb28:=NB332_336.out;have hnc28:=NB336_332.out;have hcz29_0:=c3_0 BK332.out;have hcz29_1:=c3_1 BK332.out;have hcz29_2:=c3_2 BK332.out;have hfz29_0:=blk_frozen BK332.out 0;have hfz29_1:=blk_frozen BK332.out 1;have hfz29_2:=blk_frozen BK332.out 2
           go_wp2
           refine bodyPost_ret (results_ct rfl _ _ gb332 26 #[.int .i64 0, .slice none 0 0, .int .i64 0] (0,0) _ rfl (by refine blk_put (cs:=#[.int .i64 0, .slice none 0 0, .int .i64 0]) ?_ 2 _ rfl;refine blk_put (cs:=#[.int .i64 0, .slice none 0 0, .int .i64 0]) ?_ 1 _ rfl;refine blk_put (cs:=#[.int .i64 0, .slice none 0 0, .int .i64 0]) ?_ 0 _ rfl;exact BK332.out) Tryz.underlying26 rfl (by kernel_rfl)) rfl ?_
           exact ⟨_,by rfl,by exact Kd.R_nil _ _ _ _ _,by repeat ((with_reducible first | exact HB.out | refine below_set ?_ GE332.out))⟩
          ·replace c27:=Bool.eq_false_iff.mpr c27;subst c27
           have H1 : (spec_ParseCharge.l0 kj18 a0 t333 (t333.length : Int) 2 t338 ([] : List (S45)) t341) = some (r1,r2,r3,r4):=by rw [if_neg (show ¬ (false = true) by decide)] at H;exact H
           clear H;have H:=H1;clear H1;have H':=am_ H;clear H
           go_wp2
           (skip)
           go_loopg [11] kj18 (fun kq v11 w' => ∃ (x11_3 : Int) (x333000_3 : Int) (x333002_3 : Int) (x337001_3 : List (S45)) (u337001 : Value),v11 = .int .i64 x11_3 ∧ Aside0 (spec_ParseCharge.l0 kq a0 t333 (t333.length : Int) x11_3 t338 x337001_3 t341 = some (r1,r2,r3,r4)) ∧ Aside0 (kq ≤ kj18) ∧ Aside0 (Kd.R Kd.string 9 w' w.heap.size (fun _ => True) (.slice (some ad337) t333.length co9) t333) ∧ Aside0 (Kd.R k45 45 w' w.heap.size (fun _ => True) u337001 x337001_3) ∧ Aside0 (w'.heap[gb332]? = some (.cells #[.int .i64 x333000_3,(.slice none 0 0), .int .i64 x333002_3] 26 (0,0))) ∧ Aside0 (w'.heap[gb336]? = some (.cells #[.int .i64 t338,u337001, .int .i64 t341] 26 (0,0))) ∧ Aside0 (Below w.heap.size w w'))
           case atStart => exact ⟨(2),(0),(0),(([] : List (S45))),(.slice none 0 0),(by rfl),H',⟨Nat.le_refl _⟩,⟨by exact HO_4.out⟩,⟨by exact Kd.R_nil _ _ _ _ _⟩,⟨by exact BK332.out⟩,⟨by exact BK336.out⟩,⟨by exact HB.out⟩⟩
           case round =>
            clear H';(try clear c1);(try clear c2);(try clear c2b0);(try clear c2b1);(try clear p2);(try clear c3);(try clear p3);(try clear q3);(try clear hx3);(try clear qi3);(try clear p6);(try clear c10);(try clear c10b0);(try clear c10b1);(try clear c11);(try clear c13);(try clear c13b0);(try clear c13b1);(try clear c16);(try clear c16b0);(try clear c17);(try clear c17b0);(try clear c21);(try clear c26);(try clear c27);(try clear c28);(try clear hcz12_0);(try clear hcz12_1);(try clear hcz12_2);(try clear hcz22_0);(try clear hcz22_1);(try clear hcz22_2);(try clear hcz25_0);(try clear hcz25_1);(try clear hcz25_2);(try clear hcz29_0);(try clear hcz29_1);(try clear hcz29_2);(try clear hcz4_0);(try clear hcz4_1);(try clear hcz4_2);(try clear hfz12_0);(try clear hfz12_1);(try clear hfz12_2);(try clear hfz22_0);(try clear hfz22_1);(try clear hfz22_2);(try clear hfz25_0);(try clear hfz25_1);(try clear hfz25_2);(try clear hfz29_0);(try clear hfz29_1);(try clear hfz29_2);(try clear hfz4_0);(try clear hfz4_1);(try clear hfz4_2);(try clear hx337_0);(try clear hx340_0);(try clear p2);(try clear p3);(try clear p337);(try clear p340);(try clear p6);(try clear q3);(try clear q337);(try clear q340);obtain ⟨x11_3,x333000_3,x333002_3,x337001_3,u337001,rfl,HA,HK3,HO_4,HO_337001,BK332,BK336,HB⟩ := hrel
            cases gk with
            | zero => exact absurd HA.out (by simp [spec_ParseCharge.l0])
            | succ k3 =>
             have H:=HA.out;clear HA;simp only [spec_ParseCharge.l0] at H
             by_cases c30 : (wrap64 (x11_3 + 2)) < (t333.length : Int)
             ·rw [if_pos c30] at H;have c30b0 : decide ((wrap64 (x11_3 + 2)) < (t333.length : Int)) = true:=decide_eq_true c30;clear c30;obtain ⟨ji31,hji31⟩ : ∃ j_ : Int,(wrap64 (x11_3 + 2)) = j_:=⟨_,rfl⟩
              replace H : (if 0 ≤ (ji31) then (if (ji31) < (t333.length : Int) then (if ((rdOf ByteArray.empty t333 (ji31)).size : Int) < 2 then (some (0,([] : List (S45)),0,false)) else (if 0 ≤ x11_3 then (if x11_3 < (t333.length : Int) then ((spec_l1Read.f k3 (rdOf ByteArray.empty t333 x11_3)).bind fun bt347 => (if 0 ≤ (wrap64 (((rdOf ByteArray.empty t333 (ji31)).size : Int) - 1)) then (if (wrap64 (((rdOf ByteArray.empty t333 (ji31)).size : Int) - 1)) ≤ ((rdOf ByteArray.empty t333 (ji31)).size : Int) then ((spec_l1Read.f k3 ((rdOf ByteArray.empty t333 (ji31)).extract 0 ((wrap64 (((rdOf ByteArray.empty t333 (ji31)).size : Int) - 1)) : Int).toNat)).bind fun bt351 => (if bt347.2 = true then (if bt351.2 = true then (if x337001_3.length < 8796093022208 then (spec_ParseCharge.l0 k3 a0 t333 (t333.length : Int) (wrap64 (x11_3 + 3)) t338 (x337001_3 ++ [(⟨bt347.1,bt351.1⟩ : S45)]) t341) else (none)) else (some (0,([] : List (S45)),0,false))) else (some (0,([] : List (S45)),0,false)))) else (none)) else (none))) else (none)) else (none))) else (none)) else (none)) = some (r1,r2,r3,r4):=by (rw [hji31] at H;exact H)
              (try rw [hji31] at c30b0);have hji31w : (IntKind.i64.wrap (x11_3 + 2)) = ji31:=(i64_w _).trans hji31
              by_cases c32 : 0 ≤ (ji31)
              ·rw [if_pos c32] at H;have c32b0 : decide (0 ≤ (ji31)) = true:=decide_eq_true c32;clear c32
               by_cases c33 : (ji31) < (t333.length : Int)
               ·rw [if_pos c33] at H;have c33b0 : decide ((ji31) < (t333.length : Int)) = true:=decide_eq_true c33;clear c33
                by_cases c34 : ((rdOf ByteArray.empty t333 (ji31)).size : Int) < 2
                ·rw [if_pos c34] at H;have c34b0 : decide (((rdOf ByteArray.empty t333 (ji31)).size : Int) < 2) = true:=decide_eq_true c34;have c34b1 : decide ((rdOf ByteArray.empty t333 (ji31)).size < 2) = true:=decide_eq_true (by omega);clear c34;simp only [Option.some.injEq,Prod.mk.injEq] at H;obtain ⟨rfl,rfl,rfl,rfl⟩ := H;have p345 : 0 ≤ ((ji31) : Int):=of_decide_eq_true (by (with_reducible assumption));have q345 : (ji31) < (t333.length : Int):=of_decide_eq_true (by (with_reducible assumption));obtain ⟨ad345,e345,hx345_0⟩ := Kd.at_string (Kd.R_reads' HO_4.out).2.2 (ji31) p345 q345;obtain rfl : ad337 = ad345:=(by injection e345);replace p345:=eq_true p345;replace q345:=eq_true q345;have hnb35:=NB332_336.out;have hnc35:=NB336_332.out;have hcz36_0:=c3_0 BK332.out;have hcz36_1:=c3_1 BK332.out;have hcz36_2:=c3_2 BK332.out;have hfz36_0:=blk_frozen BK332.out 0;have hfz36_1:=blk_frozen BK332.out 1;have hfz36_2:=blk_frozen BK332.out 2
                 go_wp2
                 refine bodyPost_ret (results_ct rfl _ _ gb332 26 #[.int .i64 0, .slice none 0 0, .int .i64 0] (0,0) _ rfl (by refine blk_put (cs:=#[.int .i64 0, .slice none 0 0, .int .i64 x333002_3]) ?_ 2 _ rfl;refine blk_put (cs:=#[.int .i64 0, .slice none 0 0, .int .i64 x333002_3]) ?_ 1 _ rfl;refine blk_put (cs:=#[.int .i64 x333000_3, .slice none 0 0, .int .i64 x333002_3]) ?_ 0 _ rfl;exact BK332.out) Tryz.underlying26 rfl (by kernel_rfl)) rfl ?_
                 exact ⟨_,by rfl,by exact Kd.R_nil _ _ _ _ _,by repeat ((with_reducible first | exact HB.out | refine below_set ?_ GE332.out))⟩
                ·rw [if_neg c34] at H;have c34b0 : decide (((rdOf ByteArray.empty t333 (ji31)).size : Int) < 2) = false:=decide_eq_false c34;have c34b1 : decide ((rdOf ByteArray.empty t333 (ji31)).size < 2) = false:=decide_eq_false (by omega);clear c34
                 by_cases c37 : 0 ≤ x11_3
                 ·rw [if_pos c37] at H;have c37b0 : decide (0 ≤ x11_3) = true:=decide_eq_true c37;clear c37
                  by_cases c38 : x11_3 < (t333.length : Int)
                  ·rw [if_pos c38] at H;have c38b0 : decide (x11_3 < (t333.length : Int)) = true:=decide_eq_true c38;clear c38;replace H:=Option.bind_eq_some_iff.mp H;obtain ⟨⟨t347,t348⟩,A390,H⟩ := H;replace H : (if 0 ≤ (wrap64 (((rdOf ByteArray.empty t333 (ji31)).size : Int) - 1)) then (if (wrap64 (((rdOf ByteArray.empty t333 (ji31)).size : Int) - 1)) ≤ ((rdOf ByteArray.empty t333 (ji31)).size : Int) then ((spec_l1Read.f k3 ((rdOf ByteArray.empty t333 (ji31)).extract 0 ((wrap64 (((rdOf ByteArray.empty t333 (ji31)).size : Int) - 1)) : Int).toNat)).bind fun bt351 => (if t348 = true then (if bt351.2 = true then (if x337001_3.length < 8796093022208 then (spec_ParseCharge.l0 k3 a0 t333 (t333.length : Int) (wrap64 (x11_3 + 3)) t338 (x337001_3 ++ [(⟨t347,bt351.1⟩ : S45)]) t341) else (none)) else (some (0,([] : List (S45)),0,false))) else (some (0,([] : List (S45)),0,false)))) else (none)) else (none)) = some (r1,r2,r3,r4):=H;have A39:=am_ A390;clear A390;obtain ⟨ji40,hji40⟩ : ∃ j_ : Int,(wrap64 (((rdOf ByteArray.empty t333 (ji31)).size : Int) - 1)) = j_:=⟨_,rfl⟩
                   replace H : (if 0 ≤ (ji40) then (if (ji40) ≤ ((rdOf ByteArray.empty t333 (ji31)).size : Int) then ((spec_l1Read.f k3 ((rdOf ByteArray.empty t333 (ji31)).extract 0 ((ji40) : Int).toNat)).bind fun bt351 => (if t348 = true then (if bt351.2 = true then (if x337001_3.length < 8796093022208 then (spec_ParseCharge.l0 k3 a0 t333 (t333.length : Int) (wrap64 (x11_3 + 3)) t338 (x337001_3 ++ [(⟨t347,bt351.1⟩ : S45)]) t341) else (none)) else (some (0,([] : List (S45)),0,false))) else (some (0,([] : List (S45)),0,false)))) else (none)) else (none)) = some (r1,r2,r3,r4):=by (rw [hji40] at H;exact H)
                   (skip)
                   have hji40w : (IntKind.i64.wrap (((rdOf ByteArray.empty t333 (ji31)).size : Int) - 1)) = ji40:=(i64_w _).trans hji40
                   by_cases c41 : 0 ≤ (ji40)
                   ·rw [if_pos c41] at H;have c41b0:=eq_true c41;have c41b1 : decide (0 ≤ (ji40)) = true:=decide_eq_true c41;clear c41
                    by_cases c42 : (ji40) ≤ ((rdOf ByteArray.empty t333 (ji31)).size : Int)
                    ·rw [if_pos c42] at H;have c42b0:=eq_true c42;have c42b1 : decide ((ji40) ≤ ((rdOf ByteArray.empty t333 (ji31)).size : Int)) = true:=decide_eq_true c42;clear c42;replace H:=Option.bind_eq_some_iff.mp H;obtain ⟨⟨t351,t352⟩,A430,H⟩ := H;replace H : (if t348 = true then (if t352 = true then (if x337001_3.length < 8796093022208 then (spec_ParseCharge.l0 k3 a0 t333 (t333.length : Int) (wrap64 (x11_3 + 3)) t338 (x337001_3 ++ [(⟨t347,t351⟩ : S45)]) t341) else (none)) else (some (0,([] : List (S45)),0,false))) else (some (0,([] : List (S45)),0,false))) = some (r1,r2,r3,r4):=H;have A43:=am_ A430;clear A430
                     by_cases c44 : t348 = true
                     ·subst c44
                      have H1 : (if t352 = true then (if x337001_3.length < 8796093022208 then (spec_ParseCharge.l0 k3 a0 t333 (t333.length : Int) (wrap64 (x11_3 + 3)) t338 (x337001_3 ++ [(⟨t347,t351⟩ : S45)]) t341) else (none)) else (some (0,([] : List (S45)),0,false))) = some (r1,r2,r3,r4):=by rw [if_pos rfl] at H;exact H
                      clear H;have H:=H1;clear H1
                      by_cases c45 : t352 = true
                      ·subst c45
                       have H1 : (if x337001_3.length < 8796093022208 then (spec_ParseCharge.l0 k3 a0 t333 (t333.length : Int) (wrap64 (x11_3 + 3)) t338 (x337001_3 ++ [(⟨t347,t351⟩ : S45)]) t341) else (none)) = some (r1,r2,r3,r4):=by rw [if_pos rfl] at H;exact H
                       clear H;have H:=H1;clear H1
                       by_cases c46 : x337001_3.length < 8796093022208
                       ·rw [if_pos c46] at H;have LMc46:=am_ c46;clear c46;obtain ⟨y353,hy353⟩ : ∃ y_ : List (S45),y_ = (x337001_3 ++ [(⟨t347,t351⟩ : S45)]):=⟨_,rfl⟩
                        replace H : (spec_ParseCharge.l0 k3 a0 t333 (t333.length : Int) (wrap64 (x11_3 + 3)) t338 y353 t341) = some (r1,r2,r3,r4):=by (rw [hy353];with_reducible exact H)
                        have Ny353:=am_ hy353;clear hy353;have H':=am_ H;clear H;have p345 : 0 ≤ ((ji31) : Int):=of_decide_eq_true (by (with_reducible assumption));have q345 : (ji31) < (t333.length : Int):=of_decide_eq_true (by (with_reducible assumption));obtain ⟨ad345,e345,hx345_0⟩ := Kd.at_string (Kd.R_reads' HO_4.out).2.2 (ji31) p345 q345;obtain rfl : ad337 = ad345:=(by injection e345);replace p345:=eq_true p345;replace q345:=eq_true q345;have p346 : 0 ≤ (x11_3 : Int):=of_decide_eq_true (by (with_reducible assumption));have q346 : x11_3 < (t333.length : Int):=of_decide_eq_true (by (with_reducible assumption));obtain ⟨ad346,e346,hx346_0⟩ := Kd.at_string (Kd.R_reads' HO_4.out).2.2 x11_3 p346 q346;obtain rfl : ad337 = ad346:=(by injection e346);replace p346:=eq_true p346;replace q346:=eq_true q346
                        try go_wp2_with (((with_reducible refine gate_callee (f:=32) rfl ?_);refine goesL_ (some 81) rfl rfl Tryz.func32 (by kernel_rfl) rfl #[.string (rdOf ByteArray.empty t333 x11_3)] rfl (by (try simp only [List.map_toArray,List.map_cons,List.map_nil]);rfl) ?_;(with_reducible refine (spec_l1Read.calls k3 (rdOf ByteArray.empty t333 x11_3) t347 true _ A39.out).mono ?_);rintro e w47 ⟨rfl,hb⟩;refine ⟨_,rfl, ?_⟩;have n0_:=am_ (Kd.R_below (by exact HO_4.out) hb);have n1_:=am_ (Kd.R_below (by exact HO_337001.out) hb);have n2_:=am_ (blk_below (by exact BK332.out) hb);have n3_:=am_ (blk_below (by exact BK336.out) hb);have n4_:=am_ (below_step (by exact HB.out) hb);clear HO_4;clear HO_337001;clear BK332;clear BK336;clear HB;have HO_4:=n0_;have HO_337001:=n1_;have BK332:=n2_;have BK336:=n3_;have HB:=n4_;clear n0_ n1_ n2_ n3_ n4_;(try clear hb)))
                        have n0_:=am_ (Kd.R_drew HO_4.out);have n1_:=am_ (Kd.R_drew HO_337001.out);have n2_:=am_ (blk_drew BK332.out);have n3_:=am_ (blk_drew BK336.out);have n4_:=am_ (below_drew1 HB.out);clear HO_4;clear HO_337001;clear BK332;clear BK336;clear HB;have HO_4:=n0_;have HO_337001:=n1_;have BK332:=n2_;have BK336:=n3_;have HB:=n4_;clear n0_ n1_ n2_ n3_ n4_;have p349 : 0 ≤ ((ji31) : Int):=of_decide_eq_true (by (with_reducible assumption));have q349 : (ji31) < (t333.length : Int):=of_decide_eq_true (by (with_reducible assumption));obtain ⟨ad349,e349,hx349_0⟩ := Kd.at_string (Kd.R_reads' HO_4.out).2.2 (ji31) p349 q349;obtain rfl : ad337 = ad349:=(by injection e349);replace p349:=eq_true p349;replace q349:=eq_true q349;have p350 : 0 ≤ ((ji31) : Int):=of_decide_eq_true (by (with_reducible assumption));have q350 : (ji31) < (t333.length : Int):=of_decide_eq_true (by (with_reducible assumption));obtain ⟨ad350,e350,hx350_0⟩ := Kd.at_string (Kd.R_reads' HO_4.out).2.2 (ji31) p350 q350;obtain rfl : ad337 = ad350:=(by injection e350);replace p350:=eq_true p350;replace q350:=eq_true q350
                        refine start_ (n:=19) (S:=fun w' => w'.cell? (ad337.add ((ji31)).toNat) = some (.string (rdOf ByteArray.empty t333 (ji31))) ∧ w'.cell? (ad337.add ((ji31)).toNat) = some (.string (rdOf ByteArray.empty t333 (ji31)))) (ds := []) #[false,false,false,false,false,false,false,false,false,false,false,false,false,false,false,false,false,false,false] (by kernel_rfl) rfl rfl ⟨hx349_0,hx350_0⟩ (fun hHeld => ?_);refine with_tabW spec_ParseCharge.tab20 spec_ParseCharge.bits20 (fun HT_ HW_ => ?_)
                        generalize w47.drew = w48 at HO_4 HO_337001 BK332 BK336 HB hx349_0 hx350_0 hHeld ⊢;refine pure_ (i:=0) (N:=some 85) (v:=?_) (a':=?_) #[true,false,false,false,false,false,false,false,false,false,false,false,false,false,false,false,false,false,false] rfl rfl (any_of HT_.out (by kernel_rfl)) (fun _ _ _ h => h) (Or.inl ⟨by rfl, ?_⟩) ?_ ?_
                        rotate_left
                        ·intro w'
                         go_simp
                         with_reducible rfl
                        rotate_left
                        ·simp only [Act.put,sA_,s0_,s1_,i64_w,i32_w]
                         rfl
                        refine pure_ (i:=1) (N:=some 86) (v:=?_) (a':=?_) #[true,true,false,false,false,false,false,false,false,false,false,false,false,false,false,false,false,false,false] rfl rfl (any_of HT_.out (by kernel_rfl)) (fun _ _ _ h => h) (Or.inl ⟨by rfl, ?_⟩) ?_ ?_
                        rotate_left
                        ·intro w'
                         go_simp
                         with_reducible rfl
                        rotate_left
                        ·simp only [Act.put,sA_,s0_,s1_,i64_w,i32_w]
                         rfl
                        refine pure_ (i:=2) (N:=some 87) (v:=?_) (a':=?_) #[true,true,true,false,false,false,false,false,false,false,false,false,false,false,false,false,false,false,false] rfl rfl (any_of HT_.out (by kernel_rfl)) (fun _ _ _ h => h) (Or.inl ⟨by rfl, ?_⟩) ?_ ?_
                        rotate_left
                        ·intro w'
                         go_simp
                         with_reducible rfl
                        rotate_left
                        ·simp only [Act.put,sA_,s0_,s1_,i64_w,i32_w]
                         rfl
                        refine pure_ (i:=3) (N:=some 88) (v:=?_) (a':=?_) #[true,true,true,true,false,false,false,false,false,false,false,false,false,false,false,false,false,false,false] rfl rfl (any_of HT_.out (by kernel_rfl)) (fun _ _ _ h => h) (Or.inl ⟨by rfl, ?_⟩) ?_ ?_
                        rotate_left
                        ·intro w'
                         go_simp
                         with_reducible rfl
                        rotate_left
                        ·simp only [Act.put,sA_,s0_,s1_,i64_w,i32_w]
                         rfl
                        refine pure_ (i:=5) (N:=some 90) (v:=?_) (a':=?_) #[true,true,true,true,false,true,false,false,false,false,false,false,false,false,false,false,false,false,false] rfl rfl (any_of HT_.out (by kernel_rfl)) (fun _ _ _ h => h) (Or.inl ⟨by rfl, ?_⟩) ?_ ?_
                        rotate_left
                        ·intro w'
                         go_simp
                         with_reducible rfl
                        rotate_left
                        ·simp only [Act.put,sA_,s0_,s1_,i64_w,i32_w]
                         rfl
                        refine pure_ (i:=6) (N:=some 91) (v:=?_) (a':=?_) #[true,true,true,true,false,true,true,false,false,false,false,false,false,false,false,false,false,false,false] rfl rfl (any_of HT_.out (by kernel_rfl)) (fun _ _ _ h => h) (Or.inl ⟨by rfl, ?_⟩) ?_ ?_
                        rotate_left
                        ·intro w'
                         go_simp
                         with_reducible rfl
                        rotate_left
                        ·simp only [Act.put,sA_,s0_,s1_,i64_w,i32_w]
                         rfl
                        refine pure_ (i:=7) (N:=some 92) (v:=?_) (a':=?_) #[true,true,true,true,false,true,true,true,false,false,false,false,false,false,false,false,false,false,false] rfl rfl (any_of HT_.out (by kernel_rfl)) (fun _ _ _ h => h) (Or.inl ⟨by rfl, ?_⟩) ?_ ?_
                        rotate_left
                        ·intro w'
                         go_simp
                         with_reducible rfl
                        rotate_left
                        ·simp only [Act.put,sA_,s0_,s1_,i64_w,i32_w]
                         rfl
                        refine pure_ (i:=8) (N:=some 93) (v:=?_) (a':=?_) #[true,true,true,true,false,true,true,true,true,false,false,false,false,false,false,false,false,false,false] rfl rfl (any_of HT_.out (by kernel_rfl)) (fun _ _ _ h => h) (Or.inl ⟨by rfl, ?_⟩) ?_ ?_
                        rotate_left
                        ·intro w'
                         go_simp
                         with_reducible rfl
                        rotate_left
                        ·simp only [Act.put,sA_,s0_,s1_,i64_w,i32_w]
                         rfl
                        refine take_ (i:=4) (N:=some 89) (v:=?_) (a':=?_) #[true,true,true,true,true,true,true,true,true,false,false,false,false,false,false,false,false,false,false] rfl rfl (take_ofW HT_.out HW_.out (by kernel_rfl)) (fun _ _ _ h => h) (Or.inl ⟨by rfl, ?_⟩) hHeld ?_ ?_
                        rotate_left
                        ·rintro w' ⟨s0,s1⟩
                         go_simp
                         with_reducible rfl
                        rotate_left
                        ·simp only [Act.put,sA_,s0_,s1_,i64_w,i32_w]
                         rfl
                        refine take_ (i:=9) (N:=some 94) (v:=?_) (a':=?_) #[true,true,true,true,true,true,true,true,true,true,false,false,false,false,false,false,false,false,false] rfl rfl (take_ofW HT_.out HW_.out (by kernel_rfl)) (fun _ _ _ h => h) (Or.inl ⟨by rfl, ?_⟩) hHeld ?_ ?_
                        rotate_left
                        ·rintro w' ⟨s0,s1⟩
                         go_simp
                         with_reducible rfl
                        rotate_left
                        ·simp only [Act.put,sA_,s0_,s1_,i64_w,i32_w]
                         rfl
                        refine pure_ (i:=10) (N:=some 95) (v:=?_) (a':=?_) #[true,true,true,true,true,true,true,true,true,true,true,false,false,false,false,false,false,false,false] rfl rfl (any_of HT_.out (by kernel_rfl)) (fun _ _ _ h => h) (Or.inl ⟨by rfl, ?_⟩) ?_ ?_
                        rotate_left
                        ·intro w'
                         go_simp
                         with_reducible rfl
                        rotate_left
                        ·simp only [Act.put,sA_,s0_,s1_,i64_w,i32_w]
                         rfl
                        refine pure_ (i:=11) (N:=some 96) (v:=?_) (a':=?_) #[true,true,true,true,true,true,true,true,true,true,true,true,false,false,false,false,false,false,false] rfl rfl (any_of HT_.out (by kernel_rfl)) (fun _ _ _ h => h) (Or.inl ⟨by rfl, ?_⟩) ?_ ?_
                        rotate_left
                        ·intro w'
                         go_simp
                         with_reducible rfl
                        rotate_left
                        ·simp only [Act.put,sA_,s0_,s1_,i64_w,i32_w]
                         rfl
                        refine pure_ (i:=12) (N:=some 97) (v:=?_) (a':=?_) #[true,true,true,true,true,true,true,true,true,true,true,true,true,false,false,false,false,false,false] rfl rfl (any_of HT_.out (by kernel_rfl)) (fun _ _ _ h => h) (Or.inl ⟨by rfl, ?_⟩) ?_ ?_
                        rotate_left
                        ·intro w'
                         go_simp
                         with_reducible rfl
                        rotate_left
                        ·simp only [Act.put,sA_,s0_,s1_,i64_w,i32_w]
                         rfl
                        refine one_ (i:=13) (N:=some 98) #[true,true,true,true,true,true,true,true,true,true,true,true,true,true,false,false,false,false,false] rfl rfl (one_of HT_.out (by kernel_rfl)) (by decide) (fun K hK => ?_);refine goes_ Tryz.func32 (by kernel_rfl) rfl #[.string ((rdOf ByteArray.empty t333 (ji31)).extract 0 ((ji40) : Int).toNat)] (by rfl) rfl rfl (by (try simp only [List.map_toArray,List.map_cons,List.map_nil]);rfl) ?_
                        with_reducible refine (spec_l1Read.calls k3 ((rdOf ByteArray.empty t333 (ji31)).extract 0 ((ji40) : Int).toNat) t351 true _ A43.out).mono ?_
                        rintro e w49 ⟨rfl,hb⟩;have HS0_:=(hb.cell (World.block_lt_of_cell? _ _ (hHeld.1))).trans (hHeld.1);have HS1_:=(hb.cell (World.block_lt_of_cell? _ _ (hHeld.2))).trans (hHeld.2);refine ⟨_,rfl, ?_⟩;have n0_:=am_ (Kd.R_below (by exact HO_4.out) hb);have n1_:=am_ (Kd.R_below (by exact HO_337001.out) hb);have n2_:=am_ (blk_below (by exact BK332.out) hb);have n3_:=am_ (blk_below (by exact BK336.out) hb);have n4_:=am_ (below_step (by exact HB.out) hb);clear HO_4;clear HO_337001;clear BK332;clear BK336;clear HB;have HO_4:=n0_;have HO_337001:=n1_;have BK332:=n2_;have BK336:=n3_;have HB:=n4_;clear n0_ n1_ n2_ n3_ n4_;(try clear hb)
                        (skip)
                        (skip)
                        (skip)
                        refine hK.out _ _ ⟨HS0_,HS1_⟩ (fun hHeld => ?_);clear hK K;refine norm_ (a':=?_) ?_ ?_
                        rotate_left
                        ·show Act.put _ (some 98) _ = _
                         simp only [Act.put,sA_,s0_,s1_,i64_w,i32_w]
                         rfl
                        refine pure_ (i:=14) (N:=some 84) (v:=?_) (a':=?_) #[true,true,true,true,true,true,true,true,true,true,true,true,true,true,true,false,false,false,false] rfl rfl (any_of HT_.out (by kernel_rfl)) (fun _ _ _ h => h) (Or.inl ⟨by rfl, ?_⟩) ?_ ?_
                        rotate_left
                        ·intro w'
                         go_simp
                         with_reducible rfl
                        rotate_left
                        ·simp only [Act.put,sA_,s0_,s1_,i64_w,i32_w]
                         rfl
                        refine pure_ (i:=15) (N:=some 99) (v:=?_) (a':=?_) #[true,true,true,true,true,true,true,true,true,true,true,true,true,true,true,true,false,false,false] rfl rfl (any_of HT_.out (by kernel_rfl)) (fun _ _ _ h => h) (Or.inl ⟨by rfl, ?_⟩) ?_ ?_
                        rotate_left
                        ·intro w'
                         go_simp
                         with_reducible rfl
                        rotate_left
                        ·simp only [Act.put,sA_,s0_,s1_,i64_w,i32_w]
                         rfl
                        refine pure_ (i:=16) (N:=some 100) (v:=?_) (a':=?_) #[true,true,true,true,true,true,true,true,true,true,true,true,true,true,true,true,true,false,false] rfl rfl (any_of HT_.out (by kernel_rfl)) (fun _ _ _ h => h) (Or.inl ⟨by rfl, ?_⟩) ?_ ?_
                        rotate_left
                        ·intro w'
                         go_simp
                         with_reducible rfl
                        rotate_left
                        ·simp only [Act.put,sA_,s0_,s1_,i64_w,i32_w]
                         rfl
                        refine pure_ (i:=17) (N:=some 14) (v:=?_) (a':=?_) #[true,true,true,true,true,true,true,true,true,true,true,true,true,true,true,true,true,true,false] rfl rfl (any_of HT_.out (by kernel_rfl)) (fun _ _ _ h => h) (Or.inl ⟨by rfl, ?_⟩) ?_ ?_
                        rotate_left
                        ·intro w'
                         go_simp
                         with_reducible rfl
                        rotate_left
                        ·simp only [Act.put,sA_,s0_,s1_,i64_w,i32_w]
                         rfl
                        refine pure_ (i:=18) (N:=some 15) (v:=?_) (a':=?_) #[true,true,true,true,true,true,true,true,true,true,true,true,true,true,true,true,true,true,true] rfl rfl (any_of HT_.out (by kernel_rfl)) (fun _ _ _ h => h) (Or.inl ⟨by rfl, ?_⟩) ?_ ?_
                        rotate_left
                        ·intro w'
                         go_simp
                         with_reducible rfl
                        rotate_left
                        ·simp only [Act.put,sA_,s0_,s1_,i64_w,i32_w]
                         rfl
                        refine done_ (done_of HT_.out (by kernel_rfl)) ?_;have hnb50:=NB336_332.out;have hnc50:=NB332_336.out;have hcz51_0:=c3_0 BK336.out;have hcz51_1:=c3_1 BK336.out;have hcz51_2:=c3_2 BK336.out;have hfz51_0:=blk_frozen BK336.out 0;have hfz51_1:=blk_frozen BK336.out 1;have hfz51_2:=blk_frozen BK336.out 2
                        try go_wp2_with (((with_reducible refine gate_builtin (b := .append) (xs:=#[.tmp 109, .tmp 113]) rfl ?_);at_builtin;refine Kd.R_append k45 (w0:=w) w.heap.size rfl (.tmp 109) (.tmp 113) 24 45 (.agg #[(.int .i64 0),(.int .i64 0)]) 16 rfl Tryz.underlying24 info45 rfl (by decide) (by omega) u337001 x337001_3 (⟨t347,t351⟩ : S45) [.int .i64 t347, .int .i64 t351] (fun _ => True) (fun _ => False) rfl rfl ?aP (fun _ hk => hk.elim) ?aF ?aO ?aB ?aS ?aL ?_;(case aP => exact k45_mkM _ _ _ (⟨t347,t351⟩ : S45));(case aB => exact (by exact HB.out));(case aF => exact (fun _ _ => trivial));(case aO => exact (by exact HO_337001.out));(case aS => exact (below_size (by exact HB.out)));(case aL => have:=LMc46.out;omega);intro v354 w52 ho hb hg hat;rw [← Ny353.out] at ho;have n0_:=am_ (Kd.R_over' (by exact HO_4.out) (Kd.R_typed (by exact HO_337001.out)) (by decide) hg);have n1_:=am_ (blk_grown (g:=gb332) (o := .cells #[.int .i64 x333000_3, .slice none 0 0, .int .i64 x333002_3] 26 (0,0)) (by exact BK332.out) hg (Kd.R_ne HO_337001.out BK332.out (by decide)));have n2_:=am_ (blk_grown (g:=gb336) (o := .cells #[.int .i64 t338,u337001, .int .i64 t341] 26 (0,0)) (by exact BK336.out) hg (Kd.R_ne HO_337001.out BK336.out (by decide)));have n3_:=am_ hb;have n4_:=am_ (ho);clear HO_4;clear BK332;clear BK336;clear HB;clear HO_337001;have HO_4:=n0_;have BK332:=n1_;have BK336:=n2_;have HB:=n3_;have HO355:=n4_;clear n0_ n1_ n2_ n3_ n4_;clear ho hb hg hat;obtain ⟨Ao53,co53,eo53⟩ := Kd.R_slice HO355.out;subst eo53;have hcz54_0:=c3_0 BK336.out;have hcz54_1:=c3_1 BK336.out;have hcz54_2:=c3_2 BK336.out;have hfz54_0:=blk_frozen BK336.out 0;have hfz54_1:=blk_frozen BK336.out 1;have hfz54_2:=blk_frozen BK336.out 2))
                        go_roundg k3
                        case measure => have:=HJ5.out;have:=HJ18.out;have:=HK3.out;omega
                        case rel => exact ⟨(wrap64 (x11_3 + 3)),(x333000_3),(x333002_3),(y353),(.slice Ao53 y353.length co53),(by rfl),H',⟨by have:=HJ5.out;have:=HJ18.out;have:=HK3.out;omega⟩,⟨by exact Kd.R_mono (Kd.R_far (p:=⟨gb336,1,none⟩) (Kd.R_types HO_4.out BK336.out (by decide)) (fun _ hk => hk.2) (.slice Ao53 y353.length co53)) (fun _ hk => trivial)⟩,⟨by exact Kd.R_mono (Kd.R_far (p:=⟨gb336,1,none⟩) (Kd.R_types HO355.out BK336.out (by decide)) (fun _ hk => hk.2) (.slice Ao53 y353.length co53)) (fun _ hk => trivial)⟩,⟨by refine blk_far ?_ NB332_336.out _;exact BK332.out⟩,⟨by refine blk_put (cs:=#[.int .i64 t338,u337001, .int .i64 t341]) ?_ 1 _ rfl;exact BK336.out⟩,⟨by repeat ((with_reducible first | exact HB.out | refine below_set ?_ GE336.out))⟩⟩
                       ·rw [if_neg c46] at H
                        exact absurd H (by simp)
                      ·replace c45:=Bool.eq_false_iff.mpr c45;subst c45
                       have H1 : (some (0,([] : List (S45)),0,false)) = some (r1,r2,r3,r4):=by rw [if_neg (show ¬ (false = true) by decide)] at H;exact H
                       clear H;have H:=H1;clear H1;simp only [Option.some.injEq,Prod.mk.injEq] at H;obtain ⟨rfl,rfl,rfl,rfl⟩ := H;have p345 : 0 ≤ ((ji31) : Int):=of_decide_eq_true (by (with_reducible assumption));have q345 : (ji31) < (t333.length : Int):=of_decide_eq_true (by (with_reducible assumption));obtain ⟨ad345,e345,hx345_0⟩ := Kd.at_string (Kd.R_reads' HO_4.out).2.2 (ji31) p345 q345;obtain rfl : ad337 = ad345:=(by injection e345);replace p345:=eq_true p345;replace q345:=eq_true q345;have p346 : 0 ≤ (x11_3 : Int):=of_decide_eq_true (by (with_reducible assumption));have q346 : x11_3 < (t333.length : Int):=of_decide_eq_true (by (with_reducible assumption));obtain ⟨ad346,e346,hx346_0⟩ := Kd.at_string (Kd.R_reads' HO_4.out).2.2 x11_3 p346 q346;obtain rfl : ad337 = ad346:=(by injection e346);replace p346:=eq_true p346;replace q346:=eq_true q346
                       try go_wp2_with (((with_reducible refine gate_callee (f:=32) rfl ?_);refine goesL_ (some 81) rfl rfl Tryz.func32 (by kernel_rfl) rfl #[.string (rdOf ByteArray.empty t333 x11_3)] rfl (by (try simp only [List.map_toArray,List.map_cons,List.map_nil]);rfl) ?_;(with_reducible refine (spec_l1Read.calls k3 (rdOf ByteArray.empty t333 x11_3) t347 true _ A39.out).mono ?_);rintro e w55 ⟨rfl,hb⟩;refine ⟨_,rfl, ?_⟩;have n0_:=am_ (Kd.R_below (by exact HO_4.out) hb);have n1_:=am_ (Kd.R_below (by exact HO_337001.out) hb);have n2_:=am_ (blk_below (by exact BK332.out) hb);have n3_:=am_ (blk_below (by exact BK336.out) hb);have n4_:=am_ (below_step (by exact HB.out) hb);clear HO_4;clear HO_337001;clear BK332;clear BK336;clear HB;have HO_4:=n0_;have HO_337001:=n1_;have BK332:=n2_;have BK336:=n3_;have HB:=n4_;clear n0_ n1_ n2_ n3_ n4_;(try clear hb)))
                       have n0_:=am_ (Kd.R_drew HO_4.out);have n1_:=am_ (Kd.R_drew HO_337001.out);have n2_:=am_ (blk_drew BK332.out);have n3_:=am_ (blk_drew BK336.out);have n4_:=am_ (below_drew1 HB.out);clear HO_4;clear HO_337001;clear BK332;clear BK336;clear HB;have HO_4:=n0_;have HO_337001:=n1_;have BK332:=n2_;have BK336:=n3_;have HB:=n4_;clear n0_ n1_ n2_ n3_ n4_;have p349 : 0 ≤ ((ji31) : Int):=of_decide_eq_true (by (with_reducible assumption));have q349 : (ji31) < (t333.length : Int):=of_decide_eq_true (by (with_reducible assumption));obtain ⟨ad349,e349,hx349_0⟩ := Kd.at_string (Kd.R_reads' HO_4.out).2.2 (ji31) p349 q349;obtain rfl : ad337 = ad349:=(by injection e349);replace p349:=eq_true p349;replace q349:=eq_true q349;have p350 : 0 ≤ ((ji31) : Int):=of_decide_eq_true (by (with_reducible assumption));have q350 : (ji31) < (t333.length : Int):=of_decide_eq_true (by (with_reducible assumption));obtain ⟨ad350,e350,hx350_0⟩ := Kd.at_string (Kd.R_reads' HO_4.out).2.2 (ji31) p350 q350;obtain rfl : ad337 = ad350:=(by injection e350);replace p350:=eq_true p350;replace q350:=eq_true q350
                       refine start_ (n:=19) (S:=fun w' => w'.cell? (ad337.add ((ji31)).toNat) = some (.string (rdOf ByteArray.empty t333 (ji31))) ∧ w'.cell? (ad337.add ((ji31)).toNat) = some (.string (rdOf ByteArray.empty t333 (ji31)))) (ds := []) #[false,false,false,false,false,false,false,false,false,false,false,false,false,false,false,false,false,false,false] (by kernel_rfl) rfl rfl ⟨hx349_0,hx350_0⟩ (fun hHeld => ?_);refine with_tabW spec_ParseCharge.tab20 spec_ParseCharge.bits20 (fun HT_ HW_ => ?_)
                       generalize w55.drew = w56 at HO_4 HO_337001 BK332 BK336 HB hx349_0 hx350_0 hHeld ⊢;refine pure_ (i:=0) (N:=some 85) (v:=?_) (a':=?_) #[true,false,false,false,false,false,false,false,false,false,false,false,false,false,false,false,false,false,false] rfl rfl (any_of HT_.out (by kernel_rfl)) (fun _ _ _ h => h) (Or.inl ⟨by rfl, ?_⟩) ?_ ?_
                       rotate_left
                       ·intro w'
                        go_simp
                        with_reducible rfl
                       rotate_left
                       ·simp only [Act.put,sA_,s0_,s1_,i64_w,i32_w]
                        rfl
                       refine pure_ (i:=1) (N:=some 86) (v:=?_) (a':=?_) #[true,true,false,false,false,false,false,false,false,false,false,false,false,false,false,false,false,false,false] rfl rfl (any_of HT_.out (by kernel_rfl)) (fun _ _ _ h => h) (Or.inl ⟨by rfl, ?_⟩) ?_ ?_
                       rotate_left
                       ·intro w'
                        go_simp
                        with_reducible rfl
                       rotate_left
                       ·simp only [Act.put,sA_,s0_,s1_,i64_w,i32_w]
                        rfl
                       refine pure_ (i:=2) (N:=some 87) (v:=?_) (a':=?_) #[true,true,true,false,false,false,false,false,false,false,false,false,false,false,false,false,false,false,false] rfl rfl (any_of HT_.out (by kernel_rfl)) (fun _ _ _ h => h) (Or.inl ⟨by rfl, ?_⟩) ?_ ?_
                       rotate_left
                       ·intro w'
                        go_simp
                        with_reducible rfl
                       rotate_left
                       ·simp only [Act.put,sA_,s0_,s1_,i64_w,i32_w]
                        rfl
                       refine pure_ (i:=3) (N:=some 88) (v:=?_) (a':=?_) #[true,true,true,true,false,false,false,false,false,false,false,false,false,false,false,false,false,false,false] rfl rfl (any_of HT_.out (by kernel_rfl)) (fun _ _ _ h => h) (Or.inl ⟨by rfl, ?_⟩) ?_ ?_
                       rotate_left
                       ·intro w'
                        go_simp
                        with_reducible rfl
                       rotate_left
                       ·simp only [Act.put,sA_,s0_,s1_,i64_w,i32_w]
                        rfl
                       refine pure_ (i:=5) (N:=some 90) (v:=?_) (a':=?_) #[true,true,true,true,false,true,false,false,false,false,false,false,false,false,false,false,false,false,false] rfl rfl (any_of HT_.out (by kernel_rfl)) (fun _ _ _ h => h) (Or.inl ⟨by rfl, ?_⟩) ?_ ?_
                       rotate_left
                       ·intro w'
                        go_simp
                        with_reducible rfl
                       rotate_left
                       ·simp only [Act.put,sA_,s0_,s1_,i64_w,i32_w]
                        rfl
                       refine pure_ (i:=6) (N:=some 91) (v:=?_) (a':=?_) #[true,true,true,true,false,true,true,false,false,false,false,false,false,false,false,false,false,false,false] rfl rfl (any_of HT_.out (by kernel_rfl)) (fun _ _ _ h => h) (Or.inl ⟨by rfl, ?_⟩) ?_ ?_
                       rotate_left
                       ·intro w'
                        go_simp
                        with_reducible rfl
                       rotate_left
                       ·simp only [Act.put,sA_,s0_,s1_,i64_w,i32_w]
                        rfl
                       refine pure_ (i:=7) (N:=some 92) (v:=?_) (a':=?_) #[true,true,true,true,false,true,true,true,false,false,false,false,false,false,false,false,false,false,false] rfl rfl (any_of HT_.out (by kernel_rfl)) (fun _ _ _ h => h) (Or.inl ⟨by rfl, ?_⟩) ?_ ?_
                       rotate_left
                       ·intro w'
                        go_simp
                        with_reducible rfl
                       rotate_left
                       ·simp only [Act.put,sA_,s0_,s1_,i64_w,i32_w]
                        rfl
                       refine pure_ (i:=8) (N:=some 93) (v:=?_) (a':=?_) #[true,true,true,true,false,true,true,true,true,false,false,false,false,false,false,false,false,false,false] rfl rfl (any_of HT_.out (by kernel_rfl)) (fun _ _ _ h => h) (Or.inl ⟨by rfl, ?_⟩) ?_ ?_
                       rotate_left
                       ·intro w'
                        go_simp
                        with_reducible rfl
                       rotate_left
                       ·simp only [Act.put,sA_,s0_,s1_,i64_w,i32_w]
                        rfl
                       refine take_ (i:=4) (N:=some 89) (v:=?_) (a':=?_) #[true,true,true,true,true,true,true,true,true,false,false,false,false,false,false,false,false,false,false] rfl rfl (take_ofW HT_.out HW_.out (by kernel_rfl)) (fun _ _ _ h => h) (Or.inl ⟨by rfl, ?_⟩) hHeld ?_ ?_
                       rotate_left
                       ·rintro w' ⟨s0,s1⟩
                        go_simp
                        with_reducible rfl
                       rotate_left
                       ·simp only [Act.put,sA_,s0_,s1_,i64_w,i32_w]
                        rfl
                       refine take_ (i:=9) (N:=some 94) (v:=?_) (a':=?_) #[true,true,true,true,true,true,true,true,true,true,false,false,false,false,false,false,false,false,false] rfl rfl (take_ofW HT_.out HW_.out (by kernel_rfl)) (fun _ _ _ h => h) (Or.inl ⟨by rfl, ?_⟩) hHeld ?_ ?_
                       rotate_left
                       ·rintro w' ⟨s0,s1⟩
                        go_simp
                        with_reducible rfl
                       rotate_left
                       ·simp only [Act.put,sA_,s0_,s1_,i64_w,i32_w]
                        rfl
                       refine pure_ (i:=10) (N:=some 95) (v:=?_) (a':=?_) #[true,true,true,true,true,true,true,true,true,true,true,false,false,false,false,false,false,false,false] rfl rfl (any_of HT_.out (by kernel_rfl)) (fun _ _ _ h => h) (Or.inl ⟨by rfl, ?_⟩) ?_ ?_
                       rotate_left
                       ·intro w'
                        go_simp
                        with_reducible rfl
                       rotate_left
                       ·simp only [Act.put,sA_,s0_,s1_,i64_w,i32_w]
                        rfl
                       refine pure_ (i:=11) (N:=some 96) (v:=?_) (a':=?_) #[true,true,true,true,true,true,true,true,true,true,true,true,false,false,false,false,false,false,false] rfl rfl (any_of HT_.out (by kernel_rfl)) (fun _ _ _ h => h) (Or.inl ⟨by rfl, ?_⟩) ?_ ?_
                       rotate_left
                       ·intro w'
                        go_simp
                        with_reducible rfl
                       rotate_left
                       ·simp only [Act.put,sA_,s0_,s1_,i64_w,i32_w]
                        rfl
                       refine pure_ (i:=12) (N:=some 97) (v:=?_) (a':=?_) #[true,true,true,true,true,true,true,true,true,true,true,true,true,false,false,false,false,false,false] rfl rfl (any_of HT_.out (by kernel_rfl)) (fun _ _ _ h => h) (Or.inl ⟨by rfl, ?_⟩) ?_ ?_
                       rotate_left
                       ·intro w'
                        go_simp
                        with_reducible rfl
                       rotate_left
                       ·simp only [Act.put,sA_,s0_,s1_,i64_w,i32_w]
                        rfl
                       refine one_ (i:=13) (N:=some 98) #[true,true,true,true,true,true,true,true,true,true,true,true,true,true,false,false,false,false,false] rfl rfl (one_of HT_.out (by kernel_rfl)) (by decide) (fun K hK => ?_);refine goes_ Tryz.func32 (by kernel_rfl) rfl #[.string ((rdOf ByteArray.empty t333 (ji31)).extract 0 ((ji40) : Int).toNat)] (by rfl) rfl rfl (by (try simp only [List.map_toArray,List.map_cons,List.map_nil]);rfl) ?_
                       with_reducible refine (spec_l1Read.calls k3 ((rdOf ByteArray.empty t333 (ji31)).extract 0 ((ji40) : Int).toNat) t351 false _ A43.out).mono ?_
                       rintro e w57 ⟨rfl,hb⟩;have HS0_:=(hb.cell (World.block_lt_of_cell? _ _ (hHeld.1))).trans (hHeld.1);have HS1_:=(hb.cell (World.block_lt_of_cell? _ _ (hHeld.2))).trans (hHeld.2);refine ⟨_,rfl, ?_⟩;have n0_:=am_ (Kd.R_below (by exact HO_4.out) hb);have n1_:=am_ (Kd.R_below (by exact HO_337001.out) hb);have n2_:=am_ (blk_below (by exact BK332.out) hb);have n3_:=am_ (blk_below (by exact BK336.out) hb);have n4_:=am_ (below_step (by exact HB.out) hb);clear HO_4;clear HO_337001;clear BK332;clear BK336;clear HB;have HO_4:=n0_;have HO_337001:=n1_;have BK332:=n2_;have BK336:=n3_;have HB:=n4_;clear n0_ n1_ n2_ n3_ n4_;(try clear hb)
                       (skip)
                       (skip)
                       (skip)
                       refine hK.out _ _ ⟨HS0_,HS1_⟩ (fun hHeld => ?_);clear hK K;refine norm_ (a':=?_) ?_ ?_
                       rotate_left
                       ·show Act.put _ (some 98) _ = _
                        simp only [Act.put,sA_,s0_,s1_,i64_w,i32_w]
                        rfl
                       refine pure_ (i:=14) (N:=some 84) (v:=?_) (a':=?_) #[true,true,true,true,true,true,true,true,true,true,true,true,true,true,true,false,false,false,false] rfl rfl (any_of HT_.out (by kernel_rfl)) (fun _ _ _ h => h) (Or.inl ⟨by rfl, ?_⟩) ?_ ?_
                       rotate_left
                       ·intro w'
                        go_simp
                        with_reducible rfl
                       rotate_left
                       ·simp only [Act.put,sA_,s0_,s1_,i64_w,i32_w]
                        rfl
                       refine pure_ (i:=15) (N:=some 99) (v:=?_) (a':=?_) #[true,true,true,true,true,true,true,true,true,true,true,true,true,true,true,true,false,false,false] rfl rfl (any_of HT_.out (by kernel_rfl)) (fun _ _ _ h => h) (Or.inl ⟨by rfl, ?_⟩) ?_ ?_
                       rotate_left
                       ·intro w'
                        go_simp
                        with_reducible rfl
                       rotate_left
                       ·simp only [Act.put,sA_,s0_,s1_,i64_w,i32_w]
                        rfl
                       refine pure_ (i:=16) (N:=some 100) (v:=?_) (a':=?_) #[true,true,true,true,true,true,true,true,true,true,true,true,true,true,true,true,true,false,false] rfl rfl (any_of HT_.out (by kernel_rfl)) (fun _ _ _ h => h) (Or.inl ⟨by rfl, ?_⟩) ?_ ?_
                       rotate_left
                       ·intro w'
                        go_simp
                        with_reducible rfl
                       rotate_left
                       ·simp only [Act.put,sA_,s0_,s1_,i64_w,i32_w]
                        rfl
                       refine pure_ (i:=17) (N:=some 14) (v:=?_) (a':=?_) #[true,true,true,true,true,true,true,true,true,true,true,true,true,true,true,true,true,true,false] rfl rfl (any_of HT_.out (by kernel_rfl)) (fun _ _ _ h => h) (Or.inl ⟨by rfl, ?_⟩) ?_ ?_
                       rotate_left
                       ·intro w'
                        go_simp
                        with_reducible rfl
                       rotate_left
                       ·simp only [Act.put,sA_,s0_,s1_,i64_w,i32_w]
                        rfl
                       refine pure_ (i:=18) (N:=some 15) (v:=?_) (a':=?_) #[true,true,true,true,true,true,true,true,true,true,true,true,true,true,true,true,true,true,true] rfl rfl (any_of HT_.out (by kernel_rfl)) (fun _ _ _ h => h) (Or.inl ⟨by rfl, ?_⟩) ?_ ?_
                       rotate_left
                       ·intro w'
                        go_simp
                        with_reducible rfl
                       rotate_left
                       ·simp only [Act.put,sA_,s0_,s1_,i64_w,i32_w]
                        rfl
                       refine done_ (done_of HT_.out (by kernel_rfl)) ?_;have hnb58:=NB332_336.out;have hnc58:=NB336_332.out;have hcz59_0:=c3_0 BK332.out;have hcz59_1:=c3_1 BK332.out;have hcz59_2:=c3_2 BK332.out;have hfz59_0:=blk_frozen BK332.out 0;have hfz59_1:=blk_frozen BK332.out 1;have hfz59_2:=blk_frozen BK332.out 2
                       try go_wp2
                       refine bodyPost_ret (results_ct rfl _ _ gb332 26 #[.int .i64 0, .slice none 0 0, .int .i64 0] (0,0) _ rfl (by refine blk_put (cs:=#[.int .i64 0, .slice none 0 0, .int .i64 x333002_3]) ?_ 2 _ rfl;refine blk_put (cs:=#[.int .i64 0, .slice none 0 0, .int .i64 x333002_3]) ?_ 1 _ rfl;refine blk_put (cs:=#[.int .i64 x333000_3, .slice none 0 0, .int .i64 x333002_3]) ?_ 0 _ rfl;exact BK332.out) Tryz.underlying26 rfl (by kernel_rfl)) rfl ?_
                       exact ⟨_,by rfl,by exact Kd.R_nil _ _ _ _ _,by repeat ((with_reducible first | exact HB.out | refine below_set ?_ GE332.out))⟩
                     ·replace c44:=Bool.eq_false_iff.mpr c44;subst c44
                      have H1 : (some (0,([] : List (S45)),0,false)) = some (r1,r2,r3,r4):=by rw [if_neg (show ¬ (false = true) by decide)] at H;exact H
                      clear H;have H:=H1;clear H1;simp only [Option.some.injEq,Prod.mk.injEq] at H;obtain ⟨rfl,rfl,rfl,rfl⟩ := H;have p345 : 0 ≤ ((ji31) : Int):=of_decide_eq_true (by (with_reducible assumption));have q345 : (ji31) < (t333.length : Int):=of_decide_eq_true (by (with_reducible assumption));obtain ⟨ad345,e345,hx345_0⟩ := Kd.at_string (Kd.R_reads' HO_4.out).2.2 (ji31) p345 q345;obtain rfl : ad337 = ad345:=(by injection e345);replace p345:=eq_true p345;replace q345:=eq_true q345;have p346 : 0 ≤ (x11_3 : Int):=of_decide_eq_true (by (with_reducible assumption));have q346 : x11_3 < (t333.length : Int):=of_decide_eq_true (by (with_reducible assumption));obtain ⟨ad346,e346,hx346_0⟩ := Kd.at_string (Kd.R_reads' HO_4.out).2.2 x11_3 p346 q346;obtain rfl : ad337 = ad346:=(by injection e346);replace p346:=eq_true p346;replace q346:=eq_true q346
                      try go_wp2_with (((with_reducible refine gate_callee (f:=32) rfl ?_);refine goesL_ (some 81) rfl rfl Tryz.func32 (by kernel_rfl) rfl #[.string (rdOf ByteArray.empty t333 x11_3)] rfl (by (try simp only [List.map_toArray,List.map_cons,List.map_nil]);rfl) ?_;(with_reducible refine (spec_l1Read.calls k3 (rdOf ByteArray.empty t333 x11_3) t347 false _ A39.out).mono ?_);rintro e w60 ⟨rfl,hb⟩;refine ⟨_,rfl, ?_⟩;have n0_:=am_ (Kd.R_below (by exact HO_4.out) hb);have n1_:=am_ (Kd.R_below (by exact HO_337001.out) hb);have n2_:=am_ (blk_below (by exact BK332.out) hb);have n3_:=am_ (blk_below (by exact BK336.out) hb);have n4_:=am_ (below_step (by exact HB.out) hb);clear HO_4;clear HO_337001;clear BK332;clear BK336;clear HB;have HO_4:=n0_;have HO_337001:=n1_;have BK332:=n2_;have BK336:=n3_;have HB:=n4_;clear n0_ n1_ n2_ n3_ n4_;(try clear hb)))
                      have n0_:=am_ (Kd.R_drew HO_4.out);have n1_:=am_ (Kd.R_drew HO_337001.out);have n2_:=am_ (blk_drew BK332.out);have n3_:=am_ (blk_drew BK336.out);have n4_:=am_ (below_drew1 HB.out);clear HO_4;clear HO_337001;clear BK332;clear BK336;clear HB;have HO_4:=n0_;have HO_337001:=n1_;have BK332:=n2_;have BK336:=n3_;have HB:=n4_;clear n0_ n1_ n2_ n3_ n4_;have p349 : 0 ≤ ((ji31) : Int):=of_decide_eq_true (by (with_reducible assumption));have q349 : (ji31) < (t333.length : Int):=of_decide_eq_true (by (with_reducible assumption));obtain ⟨ad349,e349,hx349_0⟩ := Kd.at_string (Kd.R_reads' HO_4.out).2.2 (ji31) p349 q349;obtain rfl : ad337 = ad349:=(by injection e349);replace p349:=eq_true p349;replace q349:=eq_true q349;have p350 : 0 ≤ ((ji31) : Int):=of_decide_eq_true (by (with_reducible assumption));have q350 : (ji31) < (t333.length : Int):=of_decide_eq_true (by (with_reducible assumption));obtain ⟨ad350,e350,hx350_0⟩ := Kd.at_string (Kd.R_reads' HO_4.out).2.2 (ji31) p350 q350;obtain rfl : ad337 = ad350:=(by injection e350);replace p350:=eq_true p350;replace q350:=eq_true q350
                      refine start_ (n:=19) (S:=fun w' => w'.cell? (ad337.add ((ji31)).toNat) = some (.string (rdOf ByteArray.empty t333 (ji31))) ∧ w'.cell? (ad337.add ((ji31)).toNat) = some (.string (rdOf ByteArray.empty t333 (ji31)))) (ds := []) #[false,false,false,false,false,false,false,false,false,false,false,false,false,false,false,false,false,false,false] (by kernel_rfl) rfl rfl ⟨hx349_0,hx350_0⟩ (fun hHeld => ?_);refine with_tabW spec_ParseCharge.tab20 spec_ParseCharge.bits20 (fun HT_ HW_ => ?_)
                      generalize w60.drew = w61 at HO_4 HO_337001 BK332 BK336 HB hx349_0 hx350_0 hHeld ⊢;refine pure_ (i:=0) (N:=some 85) (v:=?_) (a':=?_) #[true,false,false,false,false,false,false,false,false,false,false,false,false,false,false,false,false,false,false] rfl rfl (any_of HT_.out (by kernel_rfl)) (fun _ _ _ h => h) (Or.inl ⟨by rfl, ?_⟩) ?_ ?_
                      rotate_left
                      ·intro w'
                       go_simp
                       with_reducible rfl
                      rotate_left
                      ·simp only [Act.put,sA_,s0_,s1_,i64_w,i32_w]
                       rfl
                      refine pure_ (i:=1) (N:=some 86) (v:=?_) (a':=?_) #[true,true,false,false,false,false,false,false,false,false,false,false,false,false,false,false,false,false,false] rfl rfl (any_of HT_.out (by kernel_rfl)) (fun _ _ _ h => h) (Or.inl ⟨by rfl, ?_⟩) ?_ ?_
                      rotate_left
                      ·intro w'
                       go_simp
                       with_reducible rfl
                      rotate_left
                      ·simp only [Act.put,sA_,s0_,s1_,i64_w,i32_w]
                       rfl
                      refine pure_ (i:=2) (N:=some 87) (v:=?_) (a':=?_) #[true,true,true,false,false,false,false,false,false,false,false,false,false,false,false,false,false,false,false] rfl rfl (any_of HT_.out (by kernel_rfl)) (fun _ _ _ h => h) (Or.inl ⟨by rfl, ?_⟩) ?_ ?_
                      rotate_left
                      ·intro w'
                       go_simp
                       with_reducible rfl
                      rotate_left
                      ·simp only [Act.put,sA_,s0_,s1_,i64_w,i32_w]
                       rfl
                      refine pure_ (i:=3) (N:=some 88) (v:=?_) (a':=?_) #[true,true,true,true,false,false,false,false,false,false,false,false,false,false,false,false,false,false,false] rfl rfl (any_of HT_.out (by kernel_rfl)) (fun _ _ _ h => h) (Or.inl ⟨by rfl, ?_⟩) ?_ ?_
                      rotate_left
                      ·intro w'
                       go_simp
                       with_reducible rfl
                      rotate_left
                      ·simp only [Act.put,sA_,s0_,s1_,i64_w,i32_w]
                       rfl
                      refine pure_ (i:=5) (N:=some 90) (v:=?_) (a':=?_) #[true,true,true,true,false,true,false,false,false,false,false,false,false,false,false,false,false,false,false] rfl rfl (any_of HT_.out (by kernel_rfl)) (fun _ _ _ h => h) (Or.inl ⟨by rfl, ?_⟩) ?_ ?_
                      rotate_left
                      ·intro w'
                       go_simp
                       with_reducible rfl
                      rotate_left
                      ·simp only [Act.put,sA_,s0_,s1_,i64_w,i32_w]
                       rfl
                      refine pure_ (i:=6) (N:=some 91) (v:=?_) (a':=?_) #[true,true,true,true,false,true,true,false,false,false,false,false,false,false,false,false,false,false,false] rfl rfl (any_of HT_.out (by kernel_rfl)) (fun _ _ _ h => h) (Or.inl ⟨by rfl, ?_⟩) ?_ ?_
                      rotate_left
                      ·intro w'
                       go_simp
                       with_reducible rfl
                      rotate_left
                      ·simp only [Act.put,sA_,s0_,s1_,i64_w,i32_w]
                       rfl
                      refine pure_ (i:=7) (N:=some 92) (v:=?_) (a':=?_) #[true,true,true,true,false,true,true,true,false,false,false,false,false,false,false,false,false,false,false] rfl rfl (any_of HT_.out (by kernel_rfl)) (fun _ _ _ h => h) (Or.inl ⟨by rfl, ?_⟩) ?_ ?_
                      rotate_left
                      ·intro w'
                       go_simp
                       with_reducible rfl
                      rotate_left
                      ·simp only [Act.put,sA_,s0_,s1_,i64_w,i32_w]
                       rfl
                      refine pure_ (i:=8) (N:=some 93) (v:=?_) (a':=?_) #[true,true,true,true,false,true,true,true,true,false,false,false,false,false,false,false,false,false,false] rfl rfl (any_of HT_.out (by kernel_rfl)) (fun _ _ _ h => h) (Or.inl ⟨by rfl, ?_⟩) ?_ ?_
                      rotate_left
                      ·intro w'
                       go_simp
                       with_reducible rfl
                      rotate_left
                      ·simp only [Act.put,sA_,s0_,s1_,i64_w,i32_w]
                       rfl
                      refine take_ (i:=4) (N:=some 89) (v:=?_) (a':=?_) #[true,true,true,true,true,true,true,true,true,false,false,false,false,false,false,false,false,false,false] rfl rfl (take_ofW HT_.out HW_.out (by kernel_rfl)) (fun _ _ _ h => h) (Or.inl ⟨by rfl, ?_⟩) hHeld ?_ ?_
                      rotate_left
                      ·rintro w' ⟨s0,s1⟩
                       go_simp
                       with_reducible rfl
                      rotate_left
                      ·simp only [Act.put,sA_,s0_,s1_,i64_w,i32_w]
                       rfl
                      refine take_ (i:=9) (N:=some 94) (v:=?_) (a':=?_) #[true,true,true,true,true,true,true,true,true,true,false,false,false,false,false,false,false,false,false] rfl rfl (take_ofW HT_.out HW_.out (by kernel_rfl)) (fun _ _ _ h => h) (Or.inl ⟨by rfl, ?_⟩) hHeld ?_ ?_
                      rotate_left
                      ·rintro w' ⟨s0,s1⟩
                       go_simp
                       with_reducible rfl
                      rotate_left
                      ·simp only [Act.put,sA_,s0_,s1_,i64_w,i32_w]
                       rfl
                      refine pure_ (i:=10) (N:=some 95) (v:=?_) (a':=?_) #[true,true,true,true,true,true,true,true,true,true,true,false,false,false,false,false,false,false,false] rfl rfl (any_of HT_.out (by kernel_rfl)) (fun _ _ _ h => h) (Or.inl ⟨by rfl, ?_⟩) ?_ ?_
                      rotate_left
                      ·intro w'
                       go_simp
                       with_reducible rfl
                      rotate_left
                      ·simp only [Act.put,sA_,s0_,s1_,i64_w,i32_w]
                       rfl
                      refine pure_ (i:=11) (N:=some 96) (v:=?_) (a':=?_) #[true,true,true,true,true,true,true,true,true,true,true,true,false,false,false,false,false,false,false] rfl rfl (any_of HT_.out (by kernel_rfl)) (fun _ _ _ h => h) (Or.inl ⟨by rfl, ?_⟩) ?_ ?_
                      rotate_left
                      ·intro w'
                       go_simp
                       with_reducible rfl
                      rotate_left
                      ·simp only [Act.put,sA_,s0_,s1_,i64_w,i32_w]
                       rfl
                      refine pure_ (i:=12) (N:=some 97) (v:=?_) (a':=?_) #[true,true,true,true,true,true,true,true,true,true,true,true,true,false,false,false,false,false,false] rfl rfl (any_of HT_.out (by kernel_rfl)) (fun _ _ _ h => h) (Or.inl ⟨by rfl, ?_⟩) ?_ ?_
                      rotate_left
                      ·intro w'
                       go_simp
                       with_reducible rfl
                      rotate_left
                      ·simp only [Act.put,sA_,s0_,s1_,i64_w,i32_w]
                       rfl
                      refine one_ (i:=13) (N:=some 98) #[true,true,true,true,true,true,true,true,true,true,true,true,true,true,false,false,false,false,false] rfl rfl (one_of HT_.out (by kernel_rfl)) (by decide) (fun K hK => ?_);refine goes_ Tryz.func32 (by kernel_rfl) rfl #[.string ((rdOf ByteArray.empty t333 (ji31)).extract 0 ((ji40) : Int).toNat)] (by rfl) rfl rfl (by (try simp only [List.map_toArray,List.map_cons,List.map_nil]);rfl) ?_
                      with_reducible refine (spec_l1Read.calls k3 ((rdOf ByteArray.empty t333 (ji31)).extract 0 ((ji40) : Int).toNat) t351 t352 _ A43.out).mono ?_
                      rintro e w62 ⟨rfl,hb⟩;have HS0_:=(hb.cell (World.block_lt_of_cell? _ _ (hHeld.1))).trans (hHeld.1);have HS1_:=(hb.cell (World.block_lt_of_cell? _ _ (hHeld.2))).trans (hHeld.2);refine ⟨_,rfl, ?_⟩;have n0_:=am_ (Kd.R_below (by exact HO_4.out) hb);have n1_:=am_ (Kd.R_below (by exact HO_337001.out) hb);have n2_:=am_ (blk_below (by exact BK332.out) hb);have n3_:=am_ (blk_below (by exact BK336.out) hb);have n4_:=am_ (below_step (by exact HB.out) hb);clear HO_4;clear HO_337001;clear BK332;clear BK336;clear HB;have HO_4:=n0_;have HO_337001:=n1_;have BK332:=n2_;have BK336:=n3_;have HB:=n4_;clear n0_ n1_ n2_ n3_ n4_;(try clear hb)
                      (skip)
                      (skip)
                      (skip)
                      refine hK.out _ _ ⟨HS0_,HS1_⟩ (fun hHeld => ?_);clear hK K;refine norm_ (a':=?_) ?_ ?_
                      rotate_left
                      ·show Act.put _ (some 98) _ = _
                       simp only [Act.put,sA_,s0_,s1_,i64_w,i32_w]
                       rfl
                      refine pure_ (i:=14) (N:=some 84) (v:=?_) (a':=?_) #[true,true,true,true,true,true,true,true,true,true,true,true,true,true,true,false,false,false,false] rfl rfl (any_of HT_.out (by kernel_rfl)) (fun _ _ _ h => h) (Or.inl ⟨by rfl, ?_⟩) ?_ ?_
                      rotate_left
                      ·intro w'
                       go_simp
                       with_reducible rfl
                      rotate_left
                      ·simp only [Act.put,sA_,s0_,s1_,i64_w,i32_w]
                       rfl
                      refine pure_ (i:=15) (N:=some 99) (v:=?_) (a':=?_) #[true,true,true,true,true,true,true,true,true,true,true,true,true,true,true,true,false,false,false] rfl rfl (any_of HT_.out (by kernel_rfl)) (fun _ _ _ h => h) (Or.inl ⟨by rfl, ?_⟩) ?_ ?_
                      rotate_left
                      ·intro w'
                       go_simp
                       with_reducible rfl
                      rotate_left
                      ·simp only [Act.put,sA_,s0_,s1_,i64_w,i32_w]
                       rfl
                      refine pure_ (i:=16) (N:=some 100) (v:=?_) (a':=?_) #[true,true,true,true,true,true,true,true,true,true,true,true,true,true,true,true,true,false,false] rfl rfl (any_of HT_.out (by kernel_rfl)) (fun _ _ _ h => h) (Or.inl ⟨by rfl, ?_⟩) ?_ ?_
                      rotate_left
                      ·intro w'
                       go_simp
                       with_reducible rfl
                      rotate_left
                      ·simp only [Act.put,sA_,s0_,s1_,i64_w,i32_w]
                       rfl
                      refine pure_ (i:=17) (N:=some 14) (v:=?_) (a':=?_) #[true,true,true,true,true,true,true,true,true,true,true,true,true,true,true,true,true,true,false] rfl rfl (any_of HT_.out (by kernel_rfl)) (fun _ _ _ h => h) (Or.inl ⟨by rfl, ?_⟩) ?_ ?_
                      rotate_left
                      ·intro w'
                       go_simp
                       with_reducible rfl
                      rotate_left
                      ·simp only [Act.put,sA_,s0_,s1_,i64_w,i32_w]
                       rfl
                      refine pure_ (i:=18) (N:=some 15) (v:=?_) (a':=?_) #[true,true,true,true,true,true,true,true,true,true,true,true,true,true,true,true,true,true,true] rfl rfl (any_of HT_.out (by kernel_rfl)) (fun _ _ _ h => h) (Or.inl ⟨by rfl, ?_⟩) ?_ ?_
                      rotate_left
                      ·intro w'
                       go_simp
                       with_reducible rfl
                      rotate_left
                      ·simp only [Act.put,sA_,s0_,s1_,i64_w,i32_w]
                       rfl
                      refine done_ (done_of HT_.out (by kernel_rfl)) ?_;have hnb63:=NB332_336.out;have hnc63:=NB336_332.out;have hcz64_0:=c3_0 BK332.out;have hcz64_1:=c3_1 BK332.out;have hcz64_2:=c3_2 BK332.out;have hfz64_0:=blk_frozen BK332.out 0;have hfz64_1:=blk_frozen BK332.out 1;have hfz64_2:=blk_frozen BK332.out 2
                      try go_wp2
                      refine bodyPost_ret (results_ct rfl _ _ gb332 26 #[.int .i64 0, .slice none 0 0, .int .i64 0] (0,0) _ rfl (by refine blk_put (cs:=#[.int .i64 0, .slice none 0 0, .int .i64 x333002_3]) ?_ 2 _ rfl;refine blk_put (cs:=#[.int .i64 0, .slice none 0 0, .int .i64 x333002_3]) ?_ 1 _ rfl;refine blk_put (cs:=#[.int .i64 x333000_3, .slice none 0 0, .int .i64 x333002_3]) ?_ 0 _ rfl;exact BK332.out) Tryz.underlying26 rfl (by kernel_rfl)) rfl ?_
                      exact ⟨_,by rfl,by exact Kd.R_nil _ _ _ _ _,by repeat ((with_reducible first | exact HB.out | refine below_set ?_ GE332.out))⟩
                    ·rw [if_neg c42] at H
                     exact absurd H (by simp)
                   ·rw [if_neg c41] at H
                    exact absurd H (by simp)
                  ·rw [if_neg c38] at H
                   exact absurd H (by simp)
                 ·rw [if_neg c37] at H
                  exact absurd H (by simp)
               ·rw [if_neg c33] at H
                exact absurd H (by simp)
              ·rw [if_neg c32] at H
               exact absurd H (by simp)
             ·rw [if_neg c30] at H;have c30b0 : decide ((wrap64 (x11_3 + 2)) < (t333.length : Int)) = false:=decide_eq_false c30;clear c30;replace H:=Option.bind_eq_some_iff.mp H;obtain ⟨⟨t343,t344⟩,A650,H⟩ := H;replace H : (if t344 = true then (if t343.toList = a0.toList then (some (t338,x337001_3,t341,true)) else (some (0,([] : List (S45)),0,false))) else (some (0,([] : List (S45)),0,false))) = some (r1,r2,r3,r4):=H;have A65:=am_ A650;clear A650
              by_cases c66 : t344 = true
              ·subst c66
               have H1 : (if t343.toList = a0.toList then (some (t338,x337001_3,t341,true)) else (some (0,([] : List (S45)),0,false))) = some (r1,r2,r3,r4):=by rw [if_pos rfl] at H;exact H
               clear H;have H:=H1;clear H1
               by_cases c67 : t343.toList = a0.toList
               ·rw [if_pos c67] at H;have c67b0 : (t343.toList == a0.toList) = true:=beq_iff_eq.mpr c67;have c67b1 : (t343.toList != a0.toList) = false:=bne_eq_false_iff_eq.mpr c67;clear c67;simp only [Option.some.injEq,Prod.mk.injEq] at H;obtain ⟨rfl,rfl,rfl,rfl⟩ := H;have hnb68:=NB336_332.out;have hnc68:=NB332_336.out;have hcz69_0:=c3_0 BK336.out;have hcz69_1:=c3_1 BK336.out;have hcz69_2:=c3_2 BK336.out;have hfz69_0:=blk_frozen BK336.out 0;have hfz69_1:=blk_frozen BK336.out 1;have hfz69_2:=blk_frozen BK336.out 2;obtain ⟨Ao70,co70,eo70⟩ := Kd.R_slice HO_337001.out;subst eo70
                go_wp2_with (((with_reducible refine gate_callee (f:=7) rfl ?_);refine goesL_ (some 118) rfl rfl Tryz.func7 (by kernel_rfl) rfl #[.agg #[.int .i64 t338, .slice Ao70 x337001_3.length co70, .int .i64 t341]] rfl (by (try simp only [List.map_toArray,List.map_cons,List.map_nil]);rfl) ?_;(with_reducible refine (spec_ChargeText.calls k3 t338 _ _ x337001_3 t341 t343 true _ ?side1 ?side2 A65.out).mono ?_);(case side1 => repeat (exact (Kd.R_reads' HO_337001.out).2.2));(case side2 => exact (Kd.R_reads' HO_337001.out).2.1);rintro e w71 ⟨rfl,hb⟩;refine ⟨_,rfl, ?_⟩;have n0_:=am_ (Kd.R_below (by exact HO_4.out) hb);have n1_:=am_ (Kd.R_below (by exact HO_337001.out) hb);have n2_:=am_ (blk_below (by exact BK332.out) hb);have n3_:=am_ (blk_below (by exact BK336.out) hb);have n4_:=am_ (below_step (by exact HB.out) hb);clear HO_4;clear HO_337001;clear BK332;clear BK336;clear HB;have HO_4:=n0_;have HO_337001:=n1_;have BK332:=n2_;have BK336:=n3_;have HB:=n4_;clear n0_ n1_ n2_ n3_ n4_;(try clear hb);have hcz72_0:=c3_0 BK336.out;have hcz72_1:=c3_1 BK336.out;have hcz72_2:=c3_2 BK336.out;have hfz72_0:=blk_frozen BK336.out 0;have hfz72_1:=blk_frozen BK336.out 1;have hfz72_2:=blk_frozen BK336.out 2;have hcz73_0:=c3_0 BK332.out;have hcz73_1:=c3_1 BK332.out;have hcz73_2:=c3_2 BK332.out;have hfz73_0:=blk_frozen BK332.out 0;have hfz73_1:=blk_frozen BK332.out 1;have hfz73_2:=blk_frozen BK332.out 2))
                refine bodyPost_ret (results_ct rfl _ _ gb332 26 #[.int .i64 t338, .slice Ao70 x337001_3.length co70, .int .i64 t341] (0,0) _ rfl (by refine blk_put (cs:=#[.int .i64 t338, .slice Ao70 x337001_3.length co70, .int .i64 x333002_3]) ?_ 2 _ rfl;refine blk_put (cs:=#[.int .i64 t338, .slice none 0 0, .int .i64 x333002_3]) ?_ 1 _ rfl;refine blk_put (cs:=#[.int .i64 x333000_3, .slice none 0 0, .int .i64 x333002_3]) ?_ 0 _ rfl;exact BK332.out) Tryz.underlying26 rfl (by kernel_rfl)) rfl ?_
                exact ⟨_,by rfl,by exact Kd.R_mono (rf3_ (Kd.R_types HO_337001.out BK332.out (by decide)) (.int .i64 t338) (.slice Ao70 x337001_3.length co70) (.int .i64 t341)) (fun _ hk => trivial),by repeat ((with_reducible first | exact HB.out | refine below_set ?_ GE332.out))⟩
               ·rw [if_neg c67] at H;have c67b0 : (t343.toList == a0.toList) = false:=beq_eq_false_iff_ne.mpr c67;have c67b1 : (t343.toList != a0.toList) = true:=bne_iff_ne.mpr c67;simp only [Option.some.injEq,Prod.mk.injEq] at H;obtain ⟨rfl,rfl,rfl,rfl⟩ := H;have hnb74:=NB336_332.out;have hnc74:=NB332_336.out;have hcz75_0:=c3_0 BK336.out;have hcz75_1:=c3_1 BK336.out;have hcz75_2:=c3_2 BK336.out;have hfz75_0:=blk_frozen BK336.out 0;have hfz75_1:=blk_frozen BK336.out 1;have hfz75_2:=blk_frozen BK336.out 2;obtain ⟨Ao76,co76,eo76⟩ := Kd.R_slice HO_337001.out;subst eo76
                go_wp2_with (((with_reducible refine gate_callee (f:=7) rfl ?_);refine goesL_ (some 118) rfl rfl Tryz.func7 (by kernel_rfl) rfl #[.agg #[.int .i64 t338, .slice Ao76 x337001_3.length co76, .int .i64 t341]] rfl (by (try simp only [List.map_toArray,List.map_cons,List.map_nil]);rfl) ?_;(with_reducible refine (spec_ChargeText.calls k3 t338 _ _ x337001_3 t341 t343 true _ ?side1 ?side2 A65.out).mono ?_);(case side1 => repeat (exact (Kd.R_reads' HO_337001.out).2.2));(case side2 => exact (Kd.R_reads' HO_337001.out).2.1);rintro e w77 ⟨rfl,hb⟩;refine ⟨_,rfl, ?_⟩;have n0_:=am_ (Kd.R_below (by exact HO_4.out) hb);have n1_:=am_ (Kd.R_below (by exact HO_337001.out) hb);have n2_:=am_ (blk_below (by exact BK332.out) hb);have n3_:=am_ (blk_below (by exact BK336.out) hb);have n4_:=am_ (below_step (by exact HB.out) hb);clear HO_4;clear HO_337001;clear BK332;clear BK336;clear HB;have HO_4:=n0_;have HO_337001:=n1_;have BK332:=n2_;have BK336:=n3_;have HB:=n4_;clear n0_ n1_ n2_ n3_ n4_;(try clear hb);have hcz78_0:=c3_0 BK332.out;have hcz78_1:=c3_1 BK332.out;have hcz78_2:=c3_2 BK332.out;have hfz78_0:=blk_frozen BK332.out 0;have hfz78_1:=blk_frozen BK332.out 1;have hfz78_2:=blk_frozen BK332.out 2))
                refine bodyPost_ret (results_ct rfl _ _ gb332 26 #[.int .i64 0, .slice none 0 0, .int .i64 0] (0,0) _ rfl (by refine blk_put (cs:=#[.int .i64 0, .slice none 0 0, .int .i64 x333002_3]) ?_ 2 _ rfl;refine blk_put (cs:=#[.int .i64 0, .slice none 0 0, .int .i64 x333002_3]) ?_ 1 _ rfl;refine blk_put (cs:=#[.int .i64 x333000_3, .slice none 0 0, .int .i64 x333002_3]) ?_ 0 _ rfl;exact BK332.out) Tryz.underlying26 rfl (by kernel_rfl)) rfl ?_
                exact ⟨_,by rfl,by exact Kd.R_nil _ _ _ _ _,by repeat ((with_reducible first | exact HB.out | refine below_set ?_ GE332.out))⟩
              ·replace c66:=Bool.eq_false_iff.mpr c66;subst c66
               have H1 : (some (0,([] : List (S45)),0,false)) = some (r1,r2,r3,r4):=by rw [if_neg (show ¬ (false = true) by decide)] at H;exact H
               clear H;have H:=H1;clear H1;simp only [Option.some.injEq,Prod.mk.injEq] at H;obtain ⟨rfl,rfl,rfl,rfl⟩ := H;have hnb79:=NB336_332.out;have hnc79:=NB332_336.out;have hcz80_0:=c3_0 BK336.out;have hcz80_1:=c3_1 BK336.out;have hcz80_2:=c3_2 BK336.out;have hfz80_0:=blk_frozen BK336.out 0;have hfz80_1:=blk_frozen BK336.out 1;have hfz80_2:=blk_frozen BK336.out 2;obtain ⟨Ao81,co81,eo81⟩ := Kd.R_slice HO_337001.out;subst eo81
               go_wp2_with (((with_reducible refine gate_callee (f:=7) rfl ?_);refine goesL_ (some 118) rfl rfl Tryz.func7 (by kernel_rfl) rfl #[.agg #[.int .i64 t338, .slice Ao81 x337001_3.length co81, .int .i64 t341]] rfl (by (try simp only [List.map_toArray,List.map_cons,List.map_nil]);rfl) ?_;(with_reducible refine (spec_ChargeText.calls k3 t338 _ _ x337001_3 t341 t343 false _ ?side1 ?side2 A65.out).mono ?_);(case side1 => repeat (exact (Kd.R_reads' HO_337001.out).2.2));(case side2 => exact (Kd.R_reads' HO_337001.out).2.1);rintro e w82 ⟨rfl,hb⟩;refine ⟨_,rfl, ?_⟩;have n0_:=am_ (Kd.R_below (by exact HO_4.out) hb);have n1_:=am_ (Kd.R_below (by exact HO_337001.out) hb);have n2_:=am_ (blk_below (by exact BK332.out) hb);have n3_:=am_ (blk_below (by exact BK336.out) hb);have n4_:=am_ (below_step (by exact HB.out) hb);clear HO_4;clear HO_337001;clear BK332;clear BK336;clear HB;have HO_4:=n0_;have HO_337001:=n1_;have BK332:=n2_;have BK336:=n3_;have HB:=n4_;clear n0_ n1_ n2_ n3_ n4_;(try clear hb);have hcz83_0:=c3_0 BK332.out;have hcz83_1:=c3_1 BK332.out;have hcz83_2:=c3_2 BK332.out;have hfz83_0:=blk_frozen BK332.out 0;have hfz83_1:=blk_frozen BK332.out 1;have hfz83_2:=blk_frozen BK332.out 2))
               refine bodyPost_ret (results_ct rfl _ _ gb332 26 #[.int .i64 0, .slice none 0 0, .int .i64 0] (0,0) _ rfl (by refine blk_put (cs:=#[.int .i64 0, .slice none 0 0, .int .i64 x333002_3]) ?_ 2 _ rfl;refine blk_put (cs:=#[.int .i64 0, .slice none 0 0, .int .i64 x333002_3]) ?_ 1 _ rfl;refine blk_put (cs:=#[.int .i64 x333000_3, .slice none 0 0, .int .i64 x333002_3]) ?_ 0 _ rfl;exact BK332.out) Tryz.underlying26 rfl (by kernel_rfl)) rfl ?_
               exact ⟨_,by rfl,by exact Kd.R_nil _ _ _ _ _,by repeat ((with_reducible first | exact HB.out | refine below_set ?_ GE332.out))⟩
       ·rw [if_neg c17] at H
        exact absurd H (by simp)
      ·rw [if_neg c16] at H
       exact absurd H (by simp)
     ·rw [if_neg c13] at H
      exact absurd H (by simp)

end Go.Proofs.YtciecfaeeogdoaaGreatDoor.PFnTariffs
