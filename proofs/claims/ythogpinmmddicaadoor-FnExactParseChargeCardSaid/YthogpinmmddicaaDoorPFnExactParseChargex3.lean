-- Written by a program of this session, over the kit's print (wip/xprint.py)
import Derived.Test.YthogpinmmddicaaDoorPFnExactParseChargex0
import Derived.Test.YthogpinmmddicaaDoorPFnExactParseChargex1
import Derived.Test.YthogpinmmddicaaDoorPFnExactParseChargex2
namespace Go.Proofs.YthogpinmmddicaaDoor.PFnExactParseCharge
open Go.RowKit Go.Proofs.YthogpinmmddicaaDoorW.PrintWords Go.Proofs.YthogpinmmddicaaDoorW.PrintLast Go.Proofs.YthogpinmmddicaaDoorW.PrintMore
attribute [local go_sem] max2_int min2_int max_two min_two max_three min_three max_four min_four   -- for this text's walks alone
set_option linter.unusedVariables false
set_option linter.unusedSimpArgs false

/-! ### spec_ParseCharge: function 4 -/
mutual
def spec_ParseCharge.j0 : Nat → ByteArray → List ByteArray → Int → Bool → Option (Int × (List (S35)) × Int × Bool)
 | 0,_,_,_,_ => none
 | k + 1,x0,x4,x5,x32 => if x32 = true then (some (0,([] : List (S35)),0,false)) else (if 0 < (x4.length : Int) then ((spec_l1Read.f k (rdOf ByteArray.empty x4 0)).bind fun bt137 => (if 0 ≤ (wrap64 (x5 - 1)) then (if (wrap64 (x5 - 1)) < (x4.length : Int) then ((spec_l1Read.f k (rdOf ByteArray.empty x4 (wrap64 (x5 - 1)))).bind fun bt140 => (if bt137.2 = true then (spec_ParseCharge.j1 k x0 x4 x5 (!bt140.2) bt137.1 bt140.1) else (spec_ParseCharge.j1 k x0 x4 x5 true bt137.1 bt140.1))) else (none)) else (none))) else (none))
def spec_ParseCharge.j1 : Nat → ByteArray → List ByteArray → Int → Bool → Int → Int → Option (Int × (List (S35)) × Int × Bool)
 | 0,_,_,_,_,_,_ => none
 | k + 1,x0,x4,x5,x60,x136000,x136002 => if x60 = true then (some (0,([] : List (S35)),0,false)) else (spec_ParseCharge.l0 k x0 x4 x5 2 x136000 ([] : List (S35)) x136002)
def spec_ParseCharge.l0 : Nat → ByteArray → List ByteArray → Int → Int → Int → List (S35) → Int → Option (Int × (List (S35)) × Int × Bool)
 | 0,_,_,_,_,_,_,_ => none
 | k + 1,x0,x4,x5,x11,x136000,x136001,x136002 => if (wrap64 (x11 + 2)) < x5 then (if 0 ≤ (wrap64 (x11 + 2)) then (if (wrap64 (x11 + 2)) < (x4.length : Int) then (if ((rdOf ByteArray.empty x4 (wrap64 (x11 + 2))).size : Int) < 2 then (some (0,([] : List (S35)),0,false)) else (if 0 ≤ x11 then (if x11 < (x4.length : Int) then ((spec_l1Read.f k (rdOf ByteArray.empty x4 x11)).bind fun bt146 => (if 0 ≤ (wrap64 (((rdOf ByteArray.empty x4 (wrap64 (x11 + 2))).size : Int) - 1)) then (if (wrap64 (((rdOf ByteArray.empty x4 (wrap64 (x11 + 2))).size : Int) - 1)) ≤ ((rdOf ByteArray.empty x4 (wrap64 (x11 + 2))).size : Int) then ((spec_l1Read.f k ((rdOf ByteArray.empty x4 (wrap64 (x11 + 2))).extract 0 ((wrap64 (((rdOf ByteArray.empty x4 (wrap64 (x11 + 2))).size : Int) - 1)) : Int).toNat)).bind fun bt150 => (if bt146.2 = true then (if bt150.2 = true then (if x136001.length < 8796093022208 then (spec_ParseCharge.l0 k x0 x4 x5 (wrap64 (x11 + 3)) x136000 (x136001 ++ [(⟨bt146.1,bt150.1⟩ : S35)]) x136002) else (none)) else (some (0,([] : List (S35)),0,false))) else (some (0,([] : List (S35)),0,false)))) else (none)) else (none))) else (none)) else (none))) else (none)) else (none)) else ((spec_ChargeText.f k x136000 x136001 x136002).bind fun bt142 => (if bt142.2 = true then (if bt142.1.toList = x0.toList then (some (x136000,x136001,x136002,true)) else (some (0,([] : List (S35)),0,false))) else (some (0,([] : List (S35)),0,false))))
end
def spec_ParseCharge.f (k : Nat) (a0 : ByteArray) : Option (Int × (List (S35)) × Int × Bool):=if (a0.size : Int) > 200 then (some (0,([] : List (S35)),0,false)) else ((spec_l1Split.f k a0 32).bind fun t132 => (if (t132.length : Int) < 7 then (spec_ParseCharge.j0 k a0 t132 (t132.length : Int) true) else (spec_ParseCharge.j0 k a0 t132 (t132.length : Int) (((t132.length : Int) % 3) != 1))))
theorem spec_ParseCharge.mono_l : ∀ k,(∀ y0 y1 y2 y3,LeO (spec_ParseCharge.j0 k y0 y1 y2 y3) (spec_ParseCharge.j0 (k + 1) y0 y1 y2 y3)) ∧ (∀ y0 y1 y2 y3 y4 y5,LeO (spec_ParseCharge.j1 k y0 y1 y2 y3 y4 y5) (spec_ParseCharge.j1 (k + 1) y0 y1 y2 y3 y4 y5)) ∧ (∀ y0 y1 y2 y3 y4 y5 y6,LeO (spec_ParseCharge.l0 k y0 y1 y2 y3 y4 y5 y6) (spec_ParseCharge.l0 (k + 1) y0 y1 y2 y3 y4 y5 y6))
 | 0 => ⟨fun _ _ _ _ r h => by simp [spec_ParseCharge.j0] at h,fun _ _ _ _ _ _ r h => by simp [spec_ParseCharge.j1] at h,fun _ _ _ _ _ _ _ r h => by simp [spec_ParseCharge.l0] at h⟩
 | k + 1 => by
  obtain ⟨ih0,ih1,ih2⟩ := spec_ParseCharge.mono_l k
  refine ⟨?_, ?_, ?_⟩
  ·intro y0 y1 y2 y3
   unfold spec_ParseCharge.j0
   repeat' first
   | (with_reducible exact ih0 _ _ _ _)
   | (with_reducible exact ih1 _ _ _ _ _ _)
   | (with_reducible exact ih2 _ _ _ _ _ _ _)
   | (with_reducible exact spec_ChargeText.mono _ _ _ _)
   | (with_reducible exact spec_l1Read.mono _ _)
   | (with_reducible exact spec_l1Split.mono _ _ _)
   | (with_reducible exact LeO.refl _)
   | (with_reducible exact LeO.none _)
   | (with_reducible refine LeO.ite ?_ ?_)
   | (with_reducible refine LeO.bind ?_ (fun _ => ?_))
   | exact ih0 _ _ _ _
   | exact ih1 _ _ _ _ _ _
   | exact ih2 _ _ _ _ _ _ _
   | exact spec_ChargeText.mono _ _ _ _
   | exact spec_l1Read.mono _ _
   | exact spec_l1Split.mono _ _ _
   | exact LeO.none _
   | refine LeO.ite ?_ ?_
   | refine LeO.bind ?_ (fun _ => ?_)
  ·intro y0 y1 y2 y3 y4 y5
   unfold spec_ParseCharge.j1
   repeat' first
   | (with_reducible exact ih0 _ _ _ _)
   | (with_reducible exact ih1 _ _ _ _ _ _)
   | (with_reducible exact ih2 _ _ _ _ _ _ _)
   | (with_reducible exact spec_ChargeText.mono _ _ _ _)
   | (with_reducible exact spec_l1Read.mono _ _)
   | (with_reducible exact spec_l1Split.mono _ _ _)
   | (with_reducible exact LeO.refl _)
   | (with_reducible exact LeO.none _)
   | (with_reducible refine LeO.ite ?_ ?_)
   | (with_reducible refine LeO.bind ?_ (fun _ => ?_))
   | exact ih0 _ _ _ _
   | exact ih1 _ _ _ _ _ _
   | exact ih2 _ _ _ _ _ _ _
   | exact spec_ChargeText.mono _ _ _ _
   | exact spec_l1Read.mono _ _
   | exact spec_l1Split.mono _ _ _
   | exact LeO.none _
   | refine LeO.ite ?_ ?_
   | refine LeO.bind ?_ (fun _ => ?_)
  ·intro y0 y1 y2 y3 y4 y5 y6
   unfold spec_ParseCharge.l0
   repeat' first
   | (with_reducible exact ih0 _ _ _ _)
   | (with_reducible exact ih1 _ _ _ _ _ _)
   | (with_reducible exact ih2 _ _ _ _ _ _ _)
   | (with_reducible exact spec_ChargeText.mono _ _ _ _)
   | (with_reducible exact spec_l1Read.mono _ _)
   | (with_reducible exact spec_l1Split.mono _ _ _)
   | (with_reducible exact LeO.refl _)
   | (with_reducible exact LeO.none _)
   | (with_reducible refine LeO.ite ?_ ?_)
   | (with_reducible refine LeO.bind ?_ (fun _ => ?_))
   | exact ih0 _ _ _ _
   | exact ih1 _ _ _ _ _ _
   | exact ih2 _ _ _ _ _ _ _
   | exact spec_ChargeText.mono _ _ _ _
   | exact spec_l1Read.mono _ _
   | exact spec_l1Split.mono _ _ _
   | exact LeO.none _
   | refine LeO.ite ?_ ?_
   | refine LeO.bind ?_ (fun _ => ?_)
theorem spec_ParseCharge.mono : ∀ a0 k,LeO (spec_ParseCharge.f k a0) (spec_ParseCharge.f (k + 1) a0):=by
 intro a0 k
 obtain ⟨ih0,ih1,ih2⟩ := spec_ParseCharge.mono_l k
 unfold spec_ParseCharge.f
 repeat' first
   | (with_reducible exact ih0 _ _ _ _)
   | (with_reducible exact ih1 _ _ _ _ _ _)
   | (with_reducible exact ih2 _ _ _ _ _ _ _)
   | (with_reducible exact spec_ChargeText.mono _ _ _ _)
   | (with_reducible exact spec_l1Read.mono _ _)
   | (with_reducible exact spec_l1Split.mono _ _ _)
   | (with_reducible exact LeO.refl _)
   | (with_reducible exact LeO.none _)
   | (with_reducible refine LeO.ite ?_ ?_)
   | (with_reducible refine LeO.bind ?_ (fun _ => ?_))
   | exact ih0 _ _ _ _
   | exact ih1 _ _ _ _ _ _
   | exact ih2 _ _ _ _ _ _ _
   | exact spec_ChargeText.mono _ _ _ _
   | exact spec_l1Read.mono _ _
   | exact spec_l1Split.mono _ _ _
   | exact LeO.none _
   | refine LeO.ite ?_ ?_
   | refine LeO.bind ?_ (fun _ => ?_)
def spec_ParseCharge.T20 : Bool × List (List Nat × List Nat):=(true,[([],[]),([],[]),([1],[1]),([0,2],[0,2]),([3],[3]),([],[]),([],[]),([6],[6]),([5,7],[5,7]),([8],[8]),([9],[9]),([10],[10]),([4,11],[4,11]),([12],[12]),([13],[13]),([14],[14]),([14],[14]),([15,13,0,1,2,3,4,5,6,7,8,9,10,11,12,13,14,15],[15]),([16,17,0,1,2,3,4,5,6,7,8,9,10,11,12,13,14,15,16,17],[16])])
def spec_ParseCharge.B20 : List Nat := [0,0,2,7,15,0,0,64,224,480,992,2016,4095,8191,16383,32767,32767,65535,262143]
theorem spec_ParseCharge.tab20 : rtab .any (opsOf Tryd.f4 20) = spec_ParseCharge.T20:=by kernel_rfl
theorem spec_ParseCharge.bits20 : waitsOk spec_ParseCharge.T20.2 spec_ParseCharge.B20 = true:=by kernel_rfl
set_option maxHeartbeats 8000000 in
set_option maxRecDepth 100000 in
theorem spec_ParseCharge.calls (k : Nat) (a0 : ByteArray) (r1 : Int) (r2 : List (S35)) (r3 : Int) (r4 : Bool) (w : World) (h : spec_ParseCharge.f k a0 = some (r1,r2,r3,r4)) :
  Calls Tryd.prog 4 #[.string a0] w fun e w' => ∃ v1_ : Value,e = .returned (.tuple #[.agg #[.int .i64 r1,v1_, .int .i64 r3], .bool r4]) ∧ Kd.R k35 35 w' w.heap.size (fun _ => True) v1_ r2 ∧ Below w.heap.size w w':=by
 have hu24:=Tryd.underlying24
 have hu35:=Tryd.underlying35
 have HB:=Aside0.mk (Below.refl w.heap.size w)
 have H : (if (a0.size : Int) > 200 then (some (0,([] : List (S35)),0,false)) else ((spec_l1Split.f k a0 32).bind fun t132 => (if (t132.length : Int) < 7 then (spec_ParseCharge.j0 k a0 t132 (t132.length : Int) true) else (spec_ParseCharge.j0 k a0 t132 (t132.length : Int) (((t132.length : Int) % 3) != 1))))) = some (r1,r2,r3,r4):=h
 clear h
 by_cases c2 : (a0.size : Int) > 200
 ·rw [if_pos c2] at H
  have c2b0 : decide (200 < (a0.size : Int)) = true:=decide_eq_true c2
  have c2b1 : decide (200 < a0.size) = true:=decide_eq_true (by omega)
  clear c2
  simp only [Option.some.injEq,Prod.mk.injEq] at H
  obtain ⟨rfl,rfl,rfl,rfl⟩ := H
  go_enter Tryd.func4,Tryd.ntmps4
  go_wp2_with (((with_reducible refine gate_dst (N:=2) rfl ?_);refine box_event ?hg (N:=2) ?hd (cs:=#[.int .i64 0, .slice none 0 0, .int .i64 0]) (t:=24) ?hr ?_;(case hd => rfl);(case hg => rfl);(case hr => (go_simp;done));intro gb131 hg w3 hbox hb;have n0_:=Aside0.mk (below_step (by exact HB.out) hb);have n1_:=Aside0.mk (hbox);have n2_:=Aside0.mk ((by rw [hg];exact (below_size (by exact HB.out)) : w.heap.size ≤ gb131));have n3_:=Aside0.mk ((by rw [hg];exact (below_size (by exact HB.out)) : w.heap.size ≤ gb131));clear HB;have HB:=n0_;have BK131:=n1_;have GW131:=n2_;have GE131:=n3_;clear n0_ n1_ n2_ n3_;clear hb hbox hg;have hcz4_0 : w3.cell? ⟨gb131,0,none⟩ = some (.int .i64 0):=(blk_cell BK131.out 0).trans rfl;have hcz4_1 : w3.cell? ⟨gb131,1,none⟩ = some (.slice none 0 0):=(blk_cell BK131.out 1).trans rfl;have hcz4_2 : w3.cell? ⟨gb131,2,none⟩ = some (.int .i64 0):=(blk_cell BK131.out 2).trans rfl;have hfz4_0:=blk_frozen BK131.out 0;have hfz4_1:=blk_frozen BK131.out 1;have hfz4_2:=blk_frozen BK131.out 2))
  refine bodyPost_ret (results_ct rfl _ _ gb131 24 #[.int .i64 0, .slice none 0 0, .int .i64 0] (0,0) _ rfl (by refine blk_put (cs:=#[.int .i64 0, .slice none 0 0, .int .i64 0]) ?_ 2 _ rfl;refine blk_put (cs:=#[.int .i64 0, .slice none 0 0, .int .i64 0]) ?_ 1 _ rfl;refine blk_put (cs:=#[.int .i64 0, .slice none 0 0, .int .i64 0]) ?_ 0 _ rfl;exact BK131.out) Tryd.underlying24 rfl (by kernel_rfl)) rfl ?_
  exact ⟨_,by rfl,by exact Kd.R_nil _ _ _ _ _,by repeat ((with_reducible first | exact HB.out | refine below_set ?_ GE131.out))⟩
 ·rw [if_neg c2] at H
  have c2b0 : decide (200 < (a0.size : Int)) = false:=decide_eq_false c2
  have c2b1 : decide (200 < a0.size) = false:=decide_eq_false (by omega)
  clear c2
  replace H:=Option.bind_eq_some_iff.mp H
  obtain ⟨t132,A50,H⟩ := H
  replace H : (if (t132.length : Int) < 7 then (spec_ParseCharge.j0 k a0 t132 (t132.length : Int) true) else (spec_ParseCharge.j0 k a0 t132 (t132.length : Int) (((t132.length : Int) % 3) != 1))) = some (r1,r2,r3,r4):=H
  have A5:=Aside0.mk A50
  clear A50
  have HC6:=Aside0.mk H
  clear H
  go_enter Tryd.func4,Tryd.ntmps4
  go_upto_region 5 with (first | ((with_reducible refine gate_dst (N:=2) rfl ?_);refine box_event ?hg (N:=2) ?hd (cs:=#[.int .i64 0, .slice none 0 0, .int .i64 0]) (t:=24) ?hr ?_;(case hd => rfl);(case hg => rfl);(case hr => (go_simp;done));intro gb131 hg w7 hbox hb;have n0_:=Aside0.mk (below_step (by exact HB.out) hb);have n1_:=Aside0.mk (hbox);have n2_:=Aside0.mk ((by rw [hg];exact (below_size (by exact HB.out)) : w.heap.size ≤ gb131));have n3_:=Aside0.mk ((by rw [hg];exact (below_size (by exact HB.out)) : w.heap.size ≤ gb131));clear HB;have HB:=n0_;have BK131:=n1_;have GW131:=n2_;have GE131:=n3_;clear n0_ n1_ n2_ n3_;clear hb hbox hg) | ((with_reducible refine gate_callee (f:=9) rfl ?_);refine goesL_ (some 23) rfl rfl Tryd.func9 (by kernel_rfl) rfl #[.string a0, .int .u8 32] rfl (by (try simp only [List.map_toArray,List.map_cons,List.map_nil]);rfl) ?_;(with_reducible refine (spec_l1Split.calls k a0 32 t132 _ A5.out).mono ?_);rintro e w8 ⟨v133,rfl,ho0,hb⟩;refine ⟨_,rfl, ?_⟩;have n0_:=Aside0.mk (Kd.R_lower ho0 (below_size (by exact HB.out)));have n1_:=Aside0.mk (blk_below (g:=gb131) (o := .cells #[.int .i64 0, .slice none 0 0, .int .i64 0] 24 (0,0)) (by exact BK131.out) hb);have n2_:=Aside0.mk (below_step (by exact HB.out) hb);clear BK131;clear HB;have HO134:=n0_;have BK131:=n1_;have HB:=n2_;clear n0_ n1_ n2_;(try clear hb);(try clear ho0);obtain ⟨Ao9,co9,eo9⟩ := Kd.R_slice HO134.out;subst eo9))
  (skip)
  go_cut [32] (fun v32 wc => ∃ (kq : Nat) (x32_5 : Bool),v32 = .bool x32_5 ∧ Aside0 (spec_ParseCharge.j0 kq a0 t132 (t132.length : Int) x32_5 = some (r1,r2,r3,r4)) ∧ Aside0 (kq ≤ k) ∧ Aside0 (Kd.R Kd.string 9 wc w.heap.size (fun _ => True) (.slice Ao9 t132.length co9) t132) ∧ Aside0 (wc.heap[gb131]? = some (.cells #[.int .i64 0,(.slice none 0 0), .int .i64 0] 24 (0,0))) ∧ Aside0 (Below w.heap.size w wc))
  case first =>
   have H:=HC6.out
   clear HC6
   by_cases c10 : (t132.length : Int) < 7
   ·rw [if_pos c10] at H
    have c10b0 : decide ((t132.length : Int) < 7) = true:=decide_eq_true c10
    have c10b1 : decide (t132.length < 7) = true:=decide_eq_true (by omega)
    clear c10
    (skip)
    have H':=Aside0.mk H
    clear H
    go_wp2
    go_meet
    case rel => exact ⟨_,(true),(by rfl),H',⟨by omega⟩,⟨by exact HO134.out⟩,⟨by exact BK131.out⟩,⟨by exact HB.out⟩⟩
   ·rw [if_neg c10] at H
    have c10b0 : decide ((t132.length : Int) < 7) = false:=decide_eq_false c10
    have c10b1 : decide (t132.length < 7) = false:=decide_eq_false (by omega)
    clear c10
    (skip)
    have H':=Aside0.mk H
    clear H
    go_wp2
    go_meet
    case rel => exact ⟨_,((((t132.length : Int) % 3) != 1)),(by rfl),H',⟨by omega⟩,⟨by exact HO134.out⟩,⟨by exact BK131.out⟩,⟨by exact HB.out⟩⟩
  case rest =>
   clear HC6
   try clear c1
   try clear c2
   try clear c2b0
   try clear c2b1
   try clear p2
   try clear c4
   try clear c9
   try clear c10
   try clear c10b0
   try clear c10b1
   try clear hcz4_0
   try clear hcz4_1
   try clear hcz4_2
   try clear hfz4_0
   try clear hfz4_1
   try clear hfz4_2
   obtain ⟨kq,x32_5,rfl,HA,HJ5,HO_4,BK131,HB⟩ := hcut
   cases kq with
   | zero => exact absurd HA.out (by simp [spec_ParseCharge.j0])
   | succ kj5 =>
    have H:=HA.out
    clear HA
    simp only [spec_ParseCharge.j0] at H
    by_cases c11 : x32_5 = true
    ·subst c11
     have H1 : (some (0,([] : List (S35)),0,false)) = some (r1,r2,r3,r4):=by rw [if_pos rfl] at H;exact H
     clear H
     have H:=H1
     clear H1
     simp only [Option.some.injEq,Prod.mk.injEq] at H
     obtain ⟨rfl,rfl,rfl,rfl⟩ := H
     have hcz12_0 : wc.cell? ⟨gb131,0,none⟩ = some (.int .i64 0):=(blk_cell BK131.out 0).trans rfl
     have hcz12_1 : wc.cell? ⟨gb131,1,none⟩ = some (.slice none 0 0):=(blk_cell BK131.out 1).trans rfl
     have hcz12_2 : wc.cell? ⟨gb131,2,none⟩ = some (.int .i64 0):=(blk_cell BK131.out 2).trans rfl
     have hfz12_0:=blk_frozen BK131.out 0
     have hfz12_1:=blk_frozen BK131.out 1
     have hfz12_2:=blk_frozen BK131.out 2
     go_wp2
     refine bodyPost_ret (results_ct rfl _ _ gb131 24 #[.int .i64 0, .slice none 0 0, .int .i64 0] (0,0) _ rfl (by refine blk_put (cs:=#[.int .i64 0, .slice none 0 0, .int .i64 0]) ?_ 2 _ rfl;refine blk_put (cs:=#[.int .i64 0, .slice none 0 0, .int .i64 0]) ?_ 1 _ rfl;refine blk_put (cs:=#[.int .i64 0, .slice none 0 0, .int .i64 0]) ?_ 0 _ rfl;exact BK131.out) Tryd.underlying24 rfl (by kernel_rfl)) rfl ?_
     exact ⟨_,by rfl,by exact Kd.R_nil _ _ _ _ _,by repeat ((with_reducible first | exact HB.out | refine below_set ?_ GE131.out))⟩
    ·replace c11:=Bool.eq_false_iff.mpr c11
     subst c11
     have H1 : (if 0 < (t132.length : Int) then ((spec_l1Read.f kj5 (rdOf ByteArray.empty t132 0)).bind fun bt137 => (if 0 ≤ (wrap64 ((t132.length : Int) - 1)) then (if (wrap64 ((t132.length : Int) - 1)) < (t132.length : Int) then ((spec_l1Read.f kj5 (rdOf ByteArray.empty t132 (wrap64 ((t132.length : Int) - 1)))).bind fun bt140 => (if bt137.2 = true then (spec_ParseCharge.j1 kj5 a0 t132 (t132.length : Int) (!bt140.2) bt137.1 bt140.1) else (spec_ParseCharge.j1 kj5 a0 t132 (t132.length : Int) true bt137.1 bt140.1))) else (none)) else (none))) else (none)) = some (r1,r2,r3,r4):=by rw [if_neg (show ¬ (false = true) by decide)] at H;exact H
     clear H
     have H:=H1
     clear H1
     by_cases c13 : 0 < (t132.length : Int)
     ·rw [if_pos c13] at H
      have c13b0 : decide (0 < (t132.length : Int)) = true:=decide_eq_true c13
      have c13b1 : decide (0 < t132.length) = true:=decide_eq_true (by omega)
      clear c13
      replace H:=Option.bind_eq_some_iff.mp H
      obtain ⟨⟨t137,t138⟩,A140,H⟩ := H
      replace H : (if 0 ≤ (wrap64 ((t132.length : Int) - 1)) then (if (wrap64 ((t132.length : Int) - 1)) < (t132.length : Int) then ((spec_l1Read.f kj5 (rdOf ByteArray.empty t132 (wrap64 ((t132.length : Int) - 1)))).bind fun bt140 => (if t138 = true then (spec_ParseCharge.j1 kj5 a0 t132 (t132.length : Int) (!bt140.2) t137 bt140.1) else (spec_ParseCharge.j1 kj5 a0 t132 (t132.length : Int) true t137 bt140.1))) else (none)) else (none)) = some (r1,r2,r3,r4):=H
      have A14:=Aside0.mk A140
      clear A140
      obtain ⟨ji15,hji15⟩ : ∃ j_ : Int,(wrap64 ((t132.length : Int) - 1)) = j_:=⟨_,rfl⟩
      replace H : (if 0 ≤ (ji15) then (if (ji15) < (t132.length : Int) then ((spec_l1Read.f kj5 (rdOf ByteArray.empty t132 (ji15))).bind fun bt140 => (if t138 = true then (spec_ParseCharge.j1 kj5 a0 t132 (t132.length : Int) (!bt140.2) t137 bt140.1) else (spec_ParseCharge.j1 kj5 a0 t132 (t132.length : Int) true t137 bt140.1))) else (none)) else (none)) = some (r1,r2,r3,r4):=by (rw [hji15] at H;exact H)
      (skip)
      have hji15w : (IntKind.i64.wrap ((t132.length : Int) - 1)) = ji15:=(i64_w _).trans hji15
      by_cases c16 : 0 ≤ (ji15)
      ·rw [if_pos c16] at H
       have c16b0 : decide (0 ≤ (ji15)) = true:=decide_eq_true c16
       clear c16
       by_cases c17 : (ji15) < (t132.length : Int)
       ·rw [if_pos c17] at H
        have c17b0 : decide ((ji15) < (t132.length : Int)) = true:=decide_eq_true c17
        clear c17
        replace H:=Option.bind_eq_some_iff.mp H
        obtain ⟨⟨t140,t141⟩,A180,H⟩ := H
        replace H : (if t138 = true then (spec_ParseCharge.j1 kj5 a0 t132 (t132.length : Int) (!t141) t137 t140) else (spec_ParseCharge.j1 kj5 a0 t132 (t132.length : Int) true t137 t140)) = some (r1,r2,r3,r4):=H
        have A18:=Aside0.mk A180
        clear A180
        have HC19:=Aside0.mk H
        clear H
        go_upto_region 12 with (first | ((with_reducible refine gate_dst (N:=6) rfl ?_);refine box_event ?hg (N:=6) ?hd (cs:=#[.int .i64 0, .slice none 0 0, .int .i64 0]) (t:=24) ?hr ?_;(case hd => rfl);(case hg => rfl);(case hr => (go_simp;done));intro gb135 hg w20 hbox hb;have n0_:=Aside0.mk (Kd.R_below (by exact HO_4.out) hb);have n1_:=Aside0.mk (blk_below (g:=gb131) (o := .cells #[.int .i64 0, .slice none 0 0, .int .i64 0] 24 (0,0)) (by exact BK131.out) hb);have n2_:=Aside0.mk (below_step (by exact HB.out) hb);have n3_:=Aside0.mk (hbox);have n4_:=Aside0.mk ((by rw [hg];exact (below_size (by exact HB.out)) : w.heap.size ≤ gb135));have n5_:=Aside0.mk ((by rw [hg];exact (below_size (by exact HB.out)) : w.heap.size ≤ gb135));have n6_:=Aside0.mk ((by rw [hg];exact Nat.ne_of_lt (blk_lt (g:=gb131) (o := .cells #[.int .i64 0, .slice none 0 0, .int .i64 0] 24 (0,0)) (by exact BK131.out)) : gb131 ≠ gb135));have n7_:=Aside0.mk ((by rw [hg];exact Nat.ne_of_gt (blk_lt (g:=gb131) (o := .cells #[.int .i64 0, .slice none 0 0, .int .i64 0] 24 (0,0)) (by exact BK131.out)) : gb135 ≠ gb131));clear HO_4;clear BK131;clear HB;have HO_4:=n0_;have BK131:=n1_;have HB:=n2_;have BK135:=n3_;have GW135:=n4_;have GE135:=n5_;have NB131_135:=n6_;have NB135_131:=n7_;clear n0_ n1_ n2_ n3_ n4_ n5_ n6_ n7_;clear hb hbox hg;have hnb21:=NB135_131.out;have hnc21:=NB131_135.out;have hcz22_0 : w20.cell? ⟨gb135,0,none⟩ = some (.int .i64 0):=(blk_cell BK135.out 0).trans rfl;have hcz22_1 : w20.cell? ⟨gb135,1,none⟩ = some (.slice none 0 0):=(blk_cell BK135.out 1).trans rfl;have hcz22_2 : w20.cell? ⟨gb135,2,none⟩ = some (.int .i64 0):=(blk_cell BK135.out 2).trans rfl;have hfz22_0:=blk_frozen BK135.out 0;have hfz22_1:=blk_frozen BK135.out 1;have hfz22_2:=blk_frozen BK135.out 2;have p136 : 0 ≤ (0 : Int):=(by omega);have q136 : 0 < (t132.length : Int):=of_decide_eq_true (by (with_reducible assumption));obtain ⟨ad136,e136,hx136_0⟩ := Kd.at_string (Kd.R_reads' HO_4.out).2.2 0 p136 q136;cases e136;have qi136 : (0 < t132.length) = True:=eq_true (by omega);(try rw [show ((0 : Int)).toNat = 0 from rfl] at hx136_0);(try rw [Addr.add_zero'] at hx136_0);have hn136_0 : ad136.block ≠ gb135:=Kd.own_blk (Kd.R_ne HO_4.out BK135.out (by decide));have hn136_1 : ad136.block ≠ gb135:=Kd.own_blk (Kd.R_ne HO_4.out BK135.out (by decide));have hn136_2 : ad136.block ≠ gb135:=Kd.own_blk (Kd.R_ne HO_4.out BK135.out (by decide));replace hx136_0:=(cell_far (p:=⟨gb135,0,none⟩) (by exact hn136_0) (.int .i64 0)).trans hx136_0;replace hx136_0:=(cell_far (p:=⟨gb135,1,none⟩) (by exact hn136_1) (.slice none 0 0)).trans hx136_0;replace hx136_0:=(cell_far (p:=⟨gb135,2,none⟩) (by exact hn136_2) (.int .i64 0)).trans hx136_0;clear hn136_0;clear hn136_1;clear hn136_2;replace p136:=eq_true p136;replace q136:=eq_true q136) | ((with_reducible refine gate_callee (f:=10) rfl ?_);refine goesL_ (some 39) rfl rfl Tryd.func10 (by kernel_rfl) rfl #[.string (rdOf ByteArray.empty t132 0)] rfl (by (try simp only [List.map_toArray,List.map_cons,List.map_nil]);rfl) ?_;(with_reducible refine (spec_l1Read.calls kj5 (rdOf ByteArray.empty t132 0) t137 t138 _ A14.out).mono ?_);rintro e w23 ⟨rfl,hb⟩;refine ⟨_,rfl, ?_⟩;have n0_:=Aside0.mk (Kd.R_below (by exact (Kd.R_mono (Kd.R_far (p:=⟨gb135,2,none⟩) (Kd.R_far (p:=⟨gb135,1,none⟩) (Kd.R_far (p:=⟨gb135,0,none⟩) (Kd.R_types HO_4.out BK135.out (by decide)) (fun _ hk => hk.2) (.int .i64 0)) (fun _ hk => hk.2) (.slice none 0 0)) (fun _ hk => hk.2) (.int .i64 0)) (fun _ h_ => h_.1))) hb);have n1_:=Aside0.mk (blk_below (g:=gb131) (o := .cells #[.int .i64 0, .slice none 0 0, .int .i64 0] 24 (0,0)) (by refine blk_far ?_ NB131_135.out _;refine blk_far ?_ NB131_135.out _;refine blk_far ?_ NB131_135.out _;exact BK131.out) hb);have n2_:=Aside0.mk (blk_below (g:=gb135) (o := .cells #[.int .i64 0, .slice none 0 0, .int .i64 0] 24 (0,0)) (by refine blk_put (cs:=#[.int .i64 0, .slice none 0 0, .int .i64 0]) ?_ 2 _ rfl;refine blk_put (cs:=#[.int .i64 0, .slice none 0 0, .int .i64 0]) ?_ 1 _ rfl;refine blk_put (cs:=#[.int .i64 0, .slice none 0 0, .int .i64 0]) ?_ 0 _ rfl;exact BK135.out) hb);have n3_:=Aside0.mk (below_step (by repeat ((with_reducible first | exact HB.out | refine below_set ?_ GE135.out))) hb);clear HO_4;clear BK131;clear BK135;clear HB;have HO_4:=n0_;have BK131:=n1_;have BK135:=n2_;have HB:=n3_;clear n0_ n1_ n2_ n3_;(try clear hb);have p139 : 0 ≤ ((ji15) : Int):=of_decide_eq_true (by (with_reducible assumption));have q139 : (ji15) < (t132.length : Int):=of_decide_eq_true (by (with_reducible assumption));obtain ⟨ad139,e139,hx139_0⟩ := Kd.at_string (Kd.R_reads' HO_4.out).2.2 (ji15) p139 q139;obtain rfl : ad136 = ad139:=(by injection e139);replace p139:=eq_true p139;replace q139:=eq_true q139) | ((with_reducible refine gate_callee (f:=10) rfl ?_);refine goesL_ (some 48) rfl rfl Tryd.func10 (by kernel_rfl) rfl #[.string (rdOf ByteArray.empty t132 (ji15))] rfl (by (try simp only [List.map_toArray,List.map_cons,List.map_nil]);rfl) ?_;(with_reducible refine (spec_l1Read.calls kj5 (rdOf ByteArray.empty t132 (ji15)) t140 t141 _ A18.out).mono ?_);rintro e w24 ⟨rfl,hb⟩;refine ⟨_,rfl, ?_⟩;have n0_:=Aside0.mk (Kd.R_below (by exact HO_4.out) hb);have n1_:=Aside0.mk (blk_below (g:=gb131) (o := .cells #[.int .i64 0, .slice none 0 0, .int .i64 0] 24 (0,0)) (by exact BK131.out) hb);have n2_:=Aside0.mk (blk_below (g:=gb135) (o := .cells #[.int .i64 0, .slice none 0 0, .int .i64 0] 24 (0,0)) (by exact BK135.out) hb);have n3_:=Aside0.mk (below_step (by exact HB.out) hb);clear HO_4;clear BK131;clear BK135;clear HB;have HO_4:=n0_;have BK131:=n1_;have BK135:=n2_;have HB:=n3_;clear n0_ n1_ n2_ n3_;(try clear hb);have hcz25_0 : w24.cell? ⟨gb135,0,none⟩ = some (.int .i64 0):=(blk_cell BK135.out 0).trans rfl;have hcz25_1 : w24.cell? ⟨gb135,1,none⟩ = some (.slice none 0 0):=(blk_cell BK135.out 1).trans rfl;have hcz25_2 : w24.cell? ⟨gb135,2,none⟩ = some (.int .i64 0):=(blk_cell BK135.out 2).trans rfl;have hfz25_0:=blk_frozen BK135.out 0;have hfz25_1:=blk_frozen BK135.out 1;have hfz25_2:=blk_frozen BK135.out 2))
        (skip)
        go_cut [60] (fun v60 wc => ∃ (kq : Nat) (x60_18 : Bool),v60 = .bool x60_18 ∧ Aside0 (spec_ParseCharge.j1 kq a0 t132 (t132.length : Int) x60_18 t137 t140 = some (r1,r2,r3,r4)) ∧ Aside0 (kq ≤ kj5) ∧ Aside0 (Kd.R Kd.string 9 wc w.heap.size (fun _ => True) (.slice (some ad136) t132.length co9) t132) ∧ Aside0 (wc.heap[gb131]? = some (.cells #[.int .i64 0,(.slice none 0 0), .int .i64 0] 24 (0,0))) ∧ Aside0 (wc.heap[gb135]? = some (.cells #[.int .i64 t137,(.slice none 0 0), .int .i64 t140] 24 (0,0))) ∧ Aside0 (Below w.heap.size w wc))
        case first =>
         have H:=HC19.out
         clear HC19
         by_cases c26 : t138 = true
         ·subst c26
          have H1 : (spec_ParseCharge.j1 kj5 a0 t132 (t132.length : Int) (!t141) t137 t140) = some (r1,r2,r3,r4):=by rw [if_pos rfl] at H;exact H
          clear H
          have H:=H1
          clear H1
          have H':=Aside0.mk H
          clear H
          go_wp2
          go_meet
          case rel => exact ⟨_,(!t141),(by rfl),H',⟨by have:=HJ5.out;omega⟩,⟨by exact Kd.R_mono (Kd.R_far (p:=⟨gb135,2,none⟩) (Kd.R_far (p:=⟨gb135,0,none⟩) (Kd.R_types HO_4.out BK135.out (by decide)) (fun _ hk => hk.2) (.int .i64 t137)) (fun _ hk => hk.2) (.int .i64 t140)) (fun _ hk => trivial)⟩,⟨by refine blk_far ?_ NB131_135.out _;refine blk_far ?_ NB131_135.out _;exact BK131.out⟩,⟨by refine blk_put (cs:=#[.int .i64 t137, .slice none 0 0, .int .i64 0]) ?_ 2 _ rfl;refine blk_put (cs:=#[.int .i64 0, .slice none 0 0, .int .i64 0]) ?_ 0 _ rfl;exact BK135.out⟩,⟨by repeat ((with_reducible first | exact HB.out | refine below_set ?_ GE135.out))⟩⟩
         ·replace c26:=Bool.eq_false_iff.mpr c26
          subst c26
          have H1 : (spec_ParseCharge.j1 kj5 a0 t132 (t132.length : Int) true t137 t140) = some (r1,r2,r3,r4):=by rw [if_neg (show ¬ (false = true) by decide)] at H;exact H
          clear H
          have H:=H1
          clear H1
          have H':=Aside0.mk H
          clear H
          go_wp2
          go_meet
          case rel => exact ⟨_,(true),(by rfl),H',⟨by have:=HJ5.out;omega⟩,⟨by exact Kd.R_mono (Kd.R_far (p:=⟨gb135,2,none⟩) (Kd.R_far (p:=⟨gb135,0,none⟩) (Kd.R_types HO_4.out BK135.out (by decide)) (fun _ hk => hk.2) (.int .i64 t137)) (fun _ hk => hk.2) (.int .i64 t140)) (fun _ hk => trivial)⟩,⟨by refine blk_far ?_ NB131_135.out _;refine blk_far ?_ NB131_135.out _;exact BK131.out⟩,⟨by refine blk_put (cs:=#[.int .i64 t137, .slice none 0 0, .int .i64 0]) ?_ 2 _ rfl;refine blk_put (cs:=#[.int .i64 0, .slice none 0 0, .int .i64 0]) ?_ 0 _ rfl;exact BK135.out⟩,⟨by repeat ((with_reducible first | exact HB.out | refine below_set ?_ GE135.out))⟩⟩
        case rest =>
         clear HC19
         try clear c1
         try clear p1
         try clear q1
         try clear hx1
         try clear qi1
         try clear c2
         try clear c2b0
         try clear c2b1
         try clear p2
         try clear c4
         try clear p6
         try clear c9
         try clear c10
         try clear c10b0
         try clear c10b1
         try clear c11
         try clear c13
         try clear c13b0
         try clear c13b1
         try clear p13
         try clear q13
         try clear hx13
         try clear qi13
         try clear c16
         try clear c16b0
         try clear c17
         try clear c17b0
         try clear c21
         try clear c26
         try clear hcz12_0
         try clear hcz12_1
         try clear hcz12_2
         try clear hcz22_0
         try clear hcz22_1
         try clear hcz22_2
         try clear hcz25_0
         try clear hcz25_1
         try clear hcz25_2
         try clear hcz4_0
         try clear hcz4_1
         try clear hcz4_2
         try clear hfz12_0
         try clear hfz12_1
         try clear hfz12_2
         try clear hfz22_0
         try clear hfz22_1
         try clear hfz22_2
         try clear hfz25_0
         try clear hfz25_1
         try clear hfz25_2
         try clear hfz4_0
         try clear hfz4_1
         try clear hfz4_2
         try clear hx136_0
         try clear hx139_0
         try clear p136
         try clear p139
         try clear p2
         try clear q136
         try clear q139
         obtain ⟨kq,x60_18,rfl,HA,HJ18,HO_4,BK131,BK135,HB⟩ := hcut
         cases kq with
         | zero => exact absurd HA.out (by simp [spec_ParseCharge.j1])
         | succ kj18 =>
          have H:=HA.out
          clear HA
          simp only [spec_ParseCharge.j1] at H
          by_cases c27 : x60_18 = true
          ·subst c27
           have H1 : (some (0,([] : List (S35)),0,false)) = some (r1,r2,r3,r4):=by rw [if_pos rfl] at H;exact H
           clear H
           have H:=H1
           clear H1
           simp only [Option.some.injEq,Prod.mk.injEq] at H
           obtain ⟨rfl,rfl,rfl,rfl⟩ := H
           have hnb28:=NB131_135.out
           have hnc28:=NB135_131.out
           have hcz29_0 : wc.cell? ⟨gb131,0,none⟩ = some (.int .i64 0):=(blk_cell BK131.out 0).trans rfl
           have hcz29_1 : wc.cell? ⟨gb131,1,none⟩ = some (.slice none 0 0):=(blk_cell BK131.out 1).trans rfl
           have hcz29_2 : wc.cell? ⟨gb131,2,none⟩ = some (.int .i64 0):=(blk_cell BK131.out 2).trans rfl
           have hfz29_0:=blk_frozen BK131.out 0
           have hfz29_1:=blk_frozen BK131.out 1
           have hfz29_2:=blk_frozen BK131.out 2
           go_wp2
           refine bodyPost_ret (results_ct rfl _ _ gb131 24 #[.int .i64 0, .slice none 0 0, .int .i64 0] (0,0) _ rfl (by refine blk_put (cs:=#[.int .i64 0, .slice none 0 0, .int .i64 0]) ?_ 2 _ rfl;refine blk_put (cs:=#[.int .i64 0, .slice none 0 0, .int .i64 0]) ?_ 1 _ rfl;refine blk_put (cs:=#[.int .i64 0, .slice none 0 0, .int .i64 0]) ?_ 0 _ rfl;exact BK131.out) Tryd.underlying24 rfl (by kernel_rfl)) rfl ?_
           exact ⟨_,by rfl,by exact Kd.R_nil _ _ _ _ _,by repeat ((with_reducible first | exact HB.out | refine below_set ?_ GE131.out))⟩
          ·replace c27:=Bool.eq_false_iff.mpr c27
           subst c27
           have H1 : (spec_ParseCharge.l0 kj18 a0 t132 (t132.length : Int) 2 t137 ([] : List (S35)) t140) = some (r1,r2,r3,r4):=by rw [if_neg (show ¬ (false = true) by decide)] at H;exact H
           clear H
           have H:=H1
           clear H1
           have H':=Aside0.mk H
           clear H
           go_wp2
           (skip)
           go_loopg [11] kj18 (fun kq v11 w' => ∃ (x11_3 : Int) (x132000_3 : Int) (x132002_3 : Int) (x136001_3 : List (S35)) (u136001 : Value),v11 = .int .i64 x11_3 ∧ Aside0 (spec_ParseCharge.l0 kq a0 t132 (t132.length : Int) x11_3 t137 x136001_3 t140 = some (r1,r2,r3,r4)) ∧ Aside0 (kq ≤ kj18) ∧ Aside0 (Kd.R Kd.string 9 w' w.heap.size (fun _ => True) (.slice (some ad136) t132.length co9) t132) ∧ Aside0 (Kd.R k35 35 w' w.heap.size (fun _ => True) u136001 x136001_3) ∧ Aside0 (w'.heap[gb131]? = some (.cells #[.int .i64 x132000_3,(.slice none 0 0), .int .i64 x132002_3] 24 (0,0))) ∧ Aside0 (w'.heap[gb135]? = some (.cells #[.int .i64 t137,u136001, .int .i64 t140] 24 (0,0))) ∧ Aside0 (Below w.heap.size w w'))
           case atStart => exact ⟨(2),(0),(0),(([] : List (S35))),(.slice none 0 0),(by rfl),H',⟨Nat.le_refl _⟩,⟨by exact HO_4.out⟩,⟨by exact Kd.R_nil _ _ _ _ _⟩,⟨by exact BK131.out⟩,⟨by exact BK135.out⟩,⟨by exact HB.out⟩⟩
           case round =>
            clear H'
            try clear c1
            try clear p1
            try clear q1
            try clear hx1
            try clear qi1
            try clear c2
            try clear c2b0
            try clear c2b1
            try clear p2
            try clear c4
            try clear p6
            try clear c9
            try clear c10
            try clear c10b0
            try clear c10b1
            try clear c11
            try clear c13
            try clear c13b0
            try clear c13b1
            try clear p13
            try clear q13
            try clear hx13
            try clear qi13
            try clear c16
            try clear c16b0
            try clear c17
            try clear c17b0
            try clear c21
            try clear c26
            try clear c27
            try clear c28
            try clear hcz12_0
            try clear hcz12_1
            try clear hcz12_2
            try clear hcz22_0
            try clear hcz22_1
            try clear hcz22_2
            try clear hcz25_0
            try clear hcz25_1
            try clear hcz25_2
            try clear hcz29_0
            try clear hcz29_1
            try clear hcz29_2
            try clear hcz4_0
            try clear hcz4_1
            try clear hcz4_2
            try clear hfz12_0
            try clear hfz12_1
            try clear hfz12_2
            try clear hfz22_0
            try clear hfz22_1
            try clear hfz22_2
            try clear hfz25_0
            try clear hfz25_1
            try clear hfz25_2
            try clear hfz29_0
            try clear hfz29_1
            try clear hfz29_2
            try clear hfz4_0
            try clear hfz4_1
            try clear hfz4_2
            try clear hx136_0
            try clear hx139_0
            try clear p1
            try clear p13
            try clear p136
            try clear p139
            try clear p2
            try clear p6
            try clear q1
            try clear q13
            try clear q136
            try clear q139
            obtain ⟨x11_3,x132000_3,x132002_3,x136001_3,u136001,rfl,HA,HK3,HO_4,HO_136001,BK131,BK135,HB⟩ := hrel
            cases gk with
            | zero => exact absurd HA.out (by simp [spec_ParseCharge.l0])
            | succ k3 =>
             have H:=HA.out
             clear HA
             simp only [spec_ParseCharge.l0] at H
             by_cases c30 : (wrap64 (x11_3 + 2)) < (t132.length : Int)
             ·rw [if_pos c30] at H
              have c30b0 : decide ((wrap64 (x11_3 + 2)) < (t132.length : Int)) = true:=decide_eq_true c30
              clear c30
              obtain ⟨ji31,hji31⟩ : ∃ j_ : Int,(wrap64 (x11_3 + 2)) = j_:=⟨_,rfl⟩
              replace H : (if 0 ≤ (ji31) then (if (ji31) < (t132.length : Int) then (if ((rdOf ByteArray.empty t132 (ji31)).size : Int) < 2 then (some (0,([] : List (S35)),0,false)) else (if 0 ≤ x11_3 then (if x11_3 < (t132.length : Int) then ((spec_l1Read.f k3 (rdOf ByteArray.empty t132 x11_3)).bind fun bt146 => (if 0 ≤ (wrap64 (((rdOf ByteArray.empty t132 (ji31)).size : Int) - 1)) then (if (wrap64 (((rdOf ByteArray.empty t132 (ji31)).size : Int) - 1)) ≤ ((rdOf ByteArray.empty t132 (ji31)).size : Int) then ((spec_l1Read.f k3 ((rdOf ByteArray.empty t132 (ji31)).extract 0 ((wrap64 (((rdOf ByteArray.empty t132 (ji31)).size : Int) - 1)) : Int).toNat)).bind fun bt150 => (if bt146.2 = true then (if bt150.2 = true then (if x136001_3.length < 8796093022208 then (spec_ParseCharge.l0 k3 a0 t132 (t132.length : Int) (wrap64 (x11_3 + 3)) t137 (x136001_3 ++ [(⟨bt146.1,bt150.1⟩ : S35)]) t140) else (none)) else (some (0,([] : List (S35)),0,false))) else (some (0,([] : List (S35)),0,false)))) else (none)) else (none))) else (none)) else (none))) else (none)) else (none)) = some (r1,r2,r3,r4):=by (rw [hji31] at H;exact H)
              (try rw [hji31] at c30b0)
              have hji31w : (IntKind.i64.wrap (x11_3 + 2)) = ji31:=(i64_w _).trans hji31
              by_cases c32 : 0 ≤ (ji31)
              ·rw [if_pos c32] at H
               have c32b0 : decide (0 ≤ (ji31)) = true:=decide_eq_true c32
               clear c32
               by_cases c33 : (ji31) < (t132.length : Int)
               ·rw [if_pos c33] at H
                have c33b0 : decide ((ji31) < (t132.length : Int)) = true:=decide_eq_true c33
                clear c33
                by_cases c34 : ((rdOf ByteArray.empty t132 (ji31)).size : Int) < 2
                ·rw [if_pos c34] at H
                 have c34b0 : decide (((rdOf ByteArray.empty t132 (ji31)).size : Int) < 2) = true:=decide_eq_true c34
                 have c34b1 : decide ((rdOf ByteArray.empty t132 (ji31)).size < 2) = true:=decide_eq_true (by omega)
                 clear c34
                 simp only [Option.some.injEq,Prod.mk.injEq] at H
                 obtain ⟨rfl,rfl,rfl,rfl⟩ := H
                 have p144 : 0 ≤ ((ji31) : Int):=of_decide_eq_true (by (with_reducible assumption))
                 have q144 : (ji31) < (t132.length : Int):=of_decide_eq_true (by (with_reducible assumption))
                 obtain ⟨ad144,e144,hx144_0⟩ := Kd.at_string (Kd.R_reads' HO_4.out).2.2 (ji31) p144 q144
                 obtain rfl : ad136 = ad144:=(by injection e144)
                 replace p144:=eq_true p144
                 replace q144:=eq_true q144
                 have hnb35:=NB131_135.out
                 have hnc35:=NB135_131.out
                 have hcz36_0 : wr.cell? ⟨gb131,0,none⟩ = some (.int .i64 x132000_3):=(blk_cell BK131.out 0).trans rfl
                 have hcz36_1 : wr.cell? ⟨gb131,1,none⟩ = some (.slice none 0 0):=(blk_cell BK131.out 1).trans rfl
                 have hcz36_2 : wr.cell? ⟨gb131,2,none⟩ = some (.int .i64 x132002_3):=(blk_cell BK131.out 2).trans rfl
                 have hfz36_0:=blk_frozen BK131.out 0
                 have hfz36_1:=blk_frozen BK131.out 1
                 have hfz36_2:=blk_frozen BK131.out 2
                 go_wp2
                 refine bodyPost_ret (results_ct rfl _ _ gb131 24 #[.int .i64 0, .slice none 0 0, .int .i64 0] (0,0) _ rfl (by refine blk_put (cs:=#[.int .i64 0, .slice none 0 0, .int .i64 x132002_3]) ?_ 2 _ rfl;refine blk_put (cs:=#[.int .i64 0, .slice none 0 0, .int .i64 x132002_3]) ?_ 1 _ rfl;refine blk_put (cs:=#[.int .i64 x132000_3, .slice none 0 0, .int .i64 x132002_3]) ?_ 0 _ rfl;exact BK131.out) Tryd.underlying24 rfl (by kernel_rfl)) rfl ?_
                 exact ⟨_,by rfl,by exact Kd.R_nil _ _ _ _ _,by repeat ((with_reducible first | exact HB.out | refine below_set ?_ GE131.out))⟩
                ·rw [if_neg c34] at H
                 have c34b0 : decide (((rdOf ByteArray.empty t132 (ji31)).size : Int) < 2) = false:=decide_eq_false c34
                 have c34b1 : decide ((rdOf ByteArray.empty t132 (ji31)).size < 2) = false:=decide_eq_false (by omega)
                 clear c34
                 by_cases c37 : 0 ≤ x11_3
                 ·rw [if_pos c37] at H
                  have c37b0 : decide (0 ≤ x11_3) = true:=decide_eq_true c37
                  clear c37
                  by_cases c38 : x11_3 < (t132.length : Int)
                  ·rw [if_pos c38] at H
                   have c38b0 : decide (x11_3 < (t132.length : Int)) = true:=decide_eq_true c38
                   clear c38
                   replace H:=Option.bind_eq_some_iff.mp H
                   obtain ⟨⟨t146,t147⟩,A390,H⟩ := H
                   replace H : (if 0 ≤ (wrap64 (((rdOf ByteArray.empty t132 (ji31)).size : Int) - 1)) then (if (wrap64 (((rdOf ByteArray.empty t132 (ji31)).size : Int) - 1)) ≤ ((rdOf ByteArray.empty t132 (ji31)).size : Int) then ((spec_l1Read.f k3 ((rdOf ByteArray.empty t132 (ji31)).extract 0 ((wrap64 (((rdOf ByteArray.empty t132 (ji31)).size : Int) - 1)) : Int).toNat)).bind fun bt150 => (if t147 = true then (if bt150.2 = true then (if x136001_3.length < 8796093022208 then (spec_ParseCharge.l0 k3 a0 t132 (t132.length : Int) (wrap64 (x11_3 + 3)) t137 (x136001_3 ++ [(⟨t146,bt150.1⟩ : S35)]) t140) else (none)) else (some (0,([] : List (S35)),0,false))) else (some (0,([] : List (S35)),0,false)))) else (none)) else (none)) = some (r1,r2,r3,r4):=H
                   have A39:=Aside0.mk A390
                   clear A390
                   obtain ⟨ji40,hji40⟩ : ∃ j_ : Int,(wrap64 (((rdOf ByteArray.empty t132 (ji31)).size : Int) - 1)) = j_:=⟨_,rfl⟩
                   replace H : (if 0 ≤ (ji40) then (if (ji40) ≤ ((rdOf ByteArray.empty t132 (ji31)).size : Int) then ((spec_l1Read.f k3 ((rdOf ByteArray.empty t132 (ji31)).extract 0 ((ji40) : Int).toNat)).bind fun bt150 => (if t147 = true then (if bt150.2 = true then (if x136001_3.length < 8796093022208 then (spec_ParseCharge.l0 k3 a0 t132 (t132.length : Int) (wrap64 (x11_3 + 3)) t137 (x136001_3 ++ [(⟨t146,bt150.1⟩ : S35)]) t140) else (none)) else (some (0,([] : List (S35)),0,false))) else (some (0,([] : List (S35)),0,false)))) else (none)) else (none)) = some (r1,r2,r3,r4):=by (rw [hji40] at H;exact H)
                   (skip)
                   have hji40w : (IntKind.i64.wrap (((rdOf ByteArray.empty t132 (ji31)).size : Int) - 1)) = ji40:=(i64_w _).trans hji40
                   by_cases c41 : 0 ≤ (ji40)
                   ·rw [if_pos c41] at H
                    have c41b0:=eq_true c41
                    have c41b1 : decide (0 ≤ (ji40)) = true:=decide_eq_true c41
                    clear c41
                    by_cases c42 : (ji40) ≤ ((rdOf ByteArray.empty t132 (ji31)).size : Int)
                    ·rw [if_pos c42] at H
                     have c42b0:=eq_true c42
                     have c42b1 : decide ((ji40) ≤ ((rdOf ByteArray.empty t132 (ji31)).size : Int)) = true:=decide_eq_true c42
                     clear c42
                     replace H:=Option.bind_eq_some_iff.mp H
                     obtain ⟨⟨t150,t151⟩,A430,H⟩ := H
                     replace H : (if t147 = true then (if t151 = true then (if x136001_3.length < 8796093022208 then (spec_ParseCharge.l0 k3 a0 t132 (t132.length : Int) (wrap64 (x11_3 + 3)) t137 (x136001_3 ++ [(⟨t146,t150⟩ : S35)]) t140) else (none)) else (some (0,([] : List (S35)),0,false))) else (some (0,([] : List (S35)),0,false))) = some (r1,r2,r3,r4):=H
                     have A43:=Aside0.mk A430
                     clear A430
                     by_cases c44 : t147 = true
                     ·subst c44
                      have H1 : (if t151 = true then (if x136001_3.length < 8796093022208 then (spec_ParseCharge.l0 k3 a0 t132 (t132.length : Int) (wrap64 (x11_3 + 3)) t137 (x136001_3 ++ [(⟨t146,t150⟩ : S35)]) t140) else (none)) else (some (0,([] : List (S35)),0,false))) = some (r1,r2,r3,r4):=by rw [if_pos rfl] at H;exact H
                      clear H
                      have H:=H1
                      clear H1
                      by_cases c45 : t151 = true
                      ·subst c45
                       have H1 : (if x136001_3.length < 8796093022208 then (spec_ParseCharge.l0 k3 a0 t132 (t132.length : Int) (wrap64 (x11_3 + 3)) t137 (x136001_3 ++ [(⟨t146,t150⟩ : S35)]) t140) else (none)) = some (r1,r2,r3,r4):=by rw [if_pos rfl] at H;exact H
                       clear H
                       have H:=H1
                       clear H1
                       by_cases c46 : x136001_3.length < 8796093022208
                       ·rw [if_pos c46] at H
                        have LMc46:=Aside0.mk c46
                        clear c46
                        obtain ⟨y152,hy152⟩ : ∃ y_ : List (S35),y_ = (x136001_3 ++ [(⟨t146,t150⟩ : S35)]):=⟨_,rfl⟩
                        replace H : (spec_ParseCharge.l0 k3 a0 t132 (t132.length : Int) (wrap64 (x11_3 + 3)) t137 y152 t140) = some (r1,r2,r3,r4):=by (rw [hy152];with_reducible exact H)
                        have Ny152:=Aside0.mk hy152
                        clear hy152
                        have H':=Aside0.mk H
                        clear H
                        have p144 : 0 ≤ ((ji31) : Int):=of_decide_eq_true (by (with_reducible assumption))
                        have q144 : (ji31) < (t132.length : Int):=of_decide_eq_true (by (with_reducible assumption))
                        obtain ⟨ad144,e144,hx144_0⟩ := Kd.at_string (Kd.R_reads' HO_4.out).2.2 (ji31) p144 q144
                        obtain rfl : ad136 = ad144:=(by injection e144)
                        replace p144:=eq_true p144
                        replace q144:=eq_true q144
                        have p145 : 0 ≤ (x11_3 : Int):=of_decide_eq_true (by (with_reducible assumption))
                        have q145 : x11_3 < (t132.length : Int):=of_decide_eq_true (by (with_reducible assumption))
                        obtain ⟨ad145,e145,hx145_0⟩ := Kd.at_string (Kd.R_reads' HO_4.out).2.2 x11_3 p145 q145
                        obtain rfl : ad136 = ad145:=(by injection e145)
                        replace p145:=eq_true p145
                        replace q145:=eq_true q145
                        try go_wp2_with (((with_reducible refine gate_callee (f:=10) rfl ?_);refine goesL_ (some 81) rfl rfl Tryd.func10 (by kernel_rfl) rfl #[.string (rdOf ByteArray.empty t132 x11_3)] rfl (by (try simp only [List.map_toArray,List.map_cons,List.map_nil]);rfl) ?_;(with_reducible refine (spec_l1Read.calls k3 (rdOf ByteArray.empty t132 x11_3) t146 true _ A39.out).mono ?_);rintro e w47 ⟨rfl,hb⟩;refine ⟨_,rfl, ?_⟩;have n0_:=Aside0.mk (Kd.R_below (by exact HO_4.out) hb);have n1_:=Aside0.mk (Kd.R_below (by exact HO_136001.out) hb);have n2_:=Aside0.mk (blk_below (g:=gb131) (o := .cells #[.int .i64 x132000_3, .slice none 0 0, .int .i64 x132002_3] 24 (0,0)) (by exact BK131.out) hb);have n3_:=Aside0.mk (blk_below (g:=gb135) (o := .cells #[.int .i64 t137,u136001, .int .i64 t140] 24 (0,0)) (by exact BK135.out) hb);have n4_:=Aside0.mk (below_step (by exact HB.out) hb);clear HO_4;clear HO_136001;clear BK131;clear BK135;clear HB;have HO_4:=n0_;have HO_136001:=n1_;have BK131:=n2_;have BK135:=n3_;have HB:=n4_;clear n0_ n1_ n2_ n3_ n4_;(try clear hb)))
                        have n0_:=Aside0.mk (Kd.R_drew HO_4.out)
                        have n1_:=Aside0.mk (Kd.R_drew HO_136001.out)
                        have n2_:=Aside0.mk (blk_drew BK131.out)
                        have n3_:=Aside0.mk (blk_drew BK135.out)
                        have n4_:=Aside0.mk (below_drew1 HB.out)
                        clear HO_4
                        clear HO_136001
                        clear BK131
                        clear BK135
                        clear HB
                        have HO_4:=n0_
                        have HO_136001:=n1_
                        have BK131:=n2_
                        have BK135:=n3_
                        have HB:=n4_
                        clear n0_ n1_ n2_ n3_ n4_
                        have p148 : 0 ≤ ((ji31) : Int):=of_decide_eq_true (by (with_reducible assumption))
                        have q148 : (ji31) < (t132.length : Int):=of_decide_eq_true (by (with_reducible assumption))
                        obtain ⟨ad148,e148,hx148_0⟩ := Kd.at_string (Kd.R_reads' HO_4.out).2.2 (ji31) p148 q148
                        obtain rfl : ad136 = ad148:=(by injection e148)
                        replace p148:=eq_true p148
                        replace q148:=eq_true q148
                        have p149 : 0 ≤ ((ji31) : Int):=of_decide_eq_true (by (with_reducible assumption))
                        have q149 : (ji31) < (t132.length : Int):=of_decide_eq_true (by (with_reducible assumption))
                        obtain ⟨ad149,e149,hx149_0⟩ := Kd.at_string (Kd.R_reads' HO_4.out).2.2 (ji31) p149 q149
                        obtain rfl : ad136 = ad149:=(by injection e149)
                        replace p149:=eq_true p149
                        replace q149:=eq_true q149
                        refine start_ (n:=19) (S:=fun w' => w'.cell? (ad136.add ((ji31)).toNat) = some (.string (rdOf ByteArray.empty t132 (ji31))) ∧ w'.cell? (ad136.add ((ji31)).toNat) = some (.string (rdOf ByteArray.empty t132 (ji31)))) (ds := []) #[false,false,false,false,false,false,false,false,false,false,false,false,false,false,false,false,false,false,false] (by kernel_rfl) rfl rfl ⟨hx148_0,hx149_0⟩ (fun hHeld => ?_);refine with_tabW spec_ParseCharge.tab20 spec_ParseCharge.bits20 (fun HT_ HW_ => ?_)
                        generalize w47.drew = w48 at HO_4 HO_136001 BK131 BK135 HB hx148_0 hx149_0 hHeld ⊢
                        refine pure_ (i:=0) (N:=some 85) (v:=?_) (a':=?_) #[true,false,false,false,false,false,false,false,false,false,false,false,false,false,false,false,false,false,false] rfl rfl (any_of HT_.out (by kernel_rfl)) (fun _ _ _ h => h) (Or.inl ⟨by rfl, ?_⟩) ?_ ?_
                        rotate_left
                        ·intro w'
                         go_simp
                         with_reducible rfl
                        rotate_left
                        ·simp only [Act.put,sA_,s0_,s1_,i64_w,i32_w]
                         rfl
                        refine pure_ (i:=1) (N:=some 86) (v:=?_) (a':=?_) #[true,true,false,false,false,false,false,false,false,false,false,false,false,false,false,false,false,false,false] rfl rfl (any_of HT_.out (by kernel_rfl)) (fun _ _ _ h => h) (Or.inl ⟨by rfl, ?_⟩) ?_ ?_
                        rotate_left
                        ·intro w'
                         go_simp
                         with_reducible rfl
                        rotate_left
                        ·simp only [Act.put,sA_,s0_,s1_,i64_w,i32_w]
                         rfl
                        refine pure_ (i:=2) (N:=some 87) (v:=?_) (a':=?_) #[true,true,true,false,false,false,false,false,false,false,false,false,false,false,false,false,false,false,false] rfl rfl (any_of HT_.out (by kernel_rfl)) (fun _ _ _ h => h) (Or.inl ⟨by rfl, ?_⟩) ?_ ?_
                        rotate_left
                        ·intro w'
                         go_simp
                         with_reducible rfl
                        rotate_left
                        ·simp only [Act.put,sA_,s0_,s1_,i64_w,i32_w]
                         rfl
                        refine pure_ (i:=3) (N:=some 88) (v:=?_) (a':=?_) #[true,true,true,true,false,false,false,false,false,false,false,false,false,false,false,false,false,false,false] rfl rfl (any_of HT_.out (by kernel_rfl)) (fun _ _ _ h => h) (Or.inl ⟨by rfl, ?_⟩) ?_ ?_
                        rotate_left
                        ·intro w'
                         go_simp
                         with_reducible rfl
                        rotate_left
                        ·simp only [Act.put,sA_,s0_,s1_,i64_w,i32_w]
                         rfl
                        refine pure_ (i:=5) (N:=some 90) (v:=?_) (a':=?_) #[true,true,true,true,false,true,false,false,false,false,false,false,false,false,false,false,false,false,false] rfl rfl (any_of HT_.out (by kernel_rfl)) (fun _ _ _ h => h) (Or.inl ⟨by rfl, ?_⟩) ?_ ?_
                        rotate_left
                        ·intro w'
                         go_simp
                         with_reducible rfl
                        rotate_left
                        ·simp only [Act.put,sA_,s0_,s1_,i64_w,i32_w]
                         rfl
                        refine pure_ (i:=6) (N:=some 91) (v:=?_) (a':=?_) #[true,true,true,true,false,true,true,false,false,false,false,false,false,false,false,false,false,false,false] rfl rfl (any_of HT_.out (by kernel_rfl)) (fun _ _ _ h => h) (Or.inl ⟨by rfl, ?_⟩) ?_ ?_
                        rotate_left
                        ·intro w'
                         go_simp
                         with_reducible rfl
                        rotate_left
                        ·simp only [Act.put,sA_,s0_,s1_,i64_w,i32_w]
                         rfl
                        refine pure_ (i:=7) (N:=some 92) (v:=?_) (a':=?_) #[true,true,true,true,false,true,true,true,false,false,false,false,false,false,false,false,false,false,false] rfl rfl (any_of HT_.out (by kernel_rfl)) (fun _ _ _ h => h) (Or.inl ⟨by rfl, ?_⟩) ?_ ?_
                        rotate_left
                        ·intro w'
                         go_simp
                         with_reducible rfl
                        rotate_left
                        ·simp only [Act.put,sA_,s0_,s1_,i64_w,i32_w]
                         rfl
                        refine pure_ (i:=8) (N:=some 93) (v:=?_) (a':=?_) #[true,true,true,true,false,true,true,true,true,false,false,false,false,false,false,false,false,false,false] rfl rfl (any_of HT_.out (by kernel_rfl)) (fun _ _ _ h => h) (Or.inl ⟨by rfl, ?_⟩) ?_ ?_
                        rotate_left
                        ·intro w'
                         go_simp
                         with_reducible rfl
                        rotate_left
                        ·simp only [Act.put,sA_,s0_,s1_,i64_w,i32_w]
                         rfl
                        refine take_ (i:=4) (N:=some 89) (v:=?_) (a':=?_) #[true,true,true,true,true,true,true,true,true,false,false,false,false,false,false,false,false,false,false] rfl rfl (take_ofW HT_.out HW_.out (by kernel_rfl)) (fun _ _ _ h => h) (Or.inl ⟨by rfl, ?_⟩) hHeld ?_ ?_
                        rotate_left
                        ·rintro w' ⟨s0,s1⟩
                         go_simp
                         with_reducible rfl
                        rotate_left
                        ·simp only [Act.put,sA_,s0_,s1_,i64_w,i32_w]
                         rfl
                        refine take_ (i:=9) (N:=some 94) (v:=?_) (a':=?_) #[true,true,true,true,true,true,true,true,true,true,false,false,false,false,false,false,false,false,false] rfl rfl (take_ofW HT_.out HW_.out (by kernel_rfl)) (fun _ _ _ h => h) (Or.inl ⟨by rfl, ?_⟩) hHeld ?_ ?_
                        rotate_left
                        ·rintro w' ⟨s0,s1⟩
                         go_simp
                         with_reducible rfl
                        rotate_left
                        ·simp only [Act.put,sA_,s0_,s1_,i64_w,i32_w]
                         rfl
                        refine pure_ (i:=10) (N:=some 95) (v:=?_) (a':=?_) #[true,true,true,true,true,true,true,true,true,true,true,false,false,false,false,false,false,false,false] rfl rfl (any_of HT_.out (by kernel_rfl)) (fun _ _ _ h => h) (Or.inl ⟨by rfl, ?_⟩) ?_ ?_
                        rotate_left
                        ·intro w'
                         go_simp
                         with_reducible rfl
                        rotate_left
                        ·simp only [Act.put,sA_,s0_,s1_,i64_w,i32_w]
                         rfl
                        refine pure_ (i:=11) (N:=some 96) (v:=?_) (a':=?_) #[true,true,true,true,true,true,true,true,true,true,true,true,false,false,false,false,false,false,false] rfl rfl (any_of HT_.out (by kernel_rfl)) (fun _ _ _ h => h) (Or.inl ⟨by rfl, ?_⟩) ?_ ?_
                        rotate_left
                        ·intro w'
                         go_simp
                         with_reducible rfl
                        rotate_left
                        ·simp only [Act.put,sA_,s0_,s1_,i64_w,i32_w]
                         rfl
                        refine pure_ (i:=12) (N:=some 97) (v:=?_) (a':=?_) #[true,true,true,true,true,true,true,true,true,true,true,true,true,false,false,false,false,false,false] rfl rfl (any_of HT_.out (by kernel_rfl)) (fun _ _ _ h => h) (Or.inl ⟨by rfl, ?_⟩) ?_ ?_
                        rotate_left
                        ·intro w'
                         go_simp
                         with_reducible rfl
                        rotate_left
                        ·simp only [Act.put,sA_,s0_,s1_,i64_w,i32_w]
                         rfl
                        refine one_ (i:=13) (N:=some 98) #[true,true,true,true,true,true,true,true,true,true,true,true,true,true,false,false,false,false,false] rfl rfl (one_of HT_.out (by kernel_rfl)) (by decide) (fun K hK => ?_)
                        refine goes_ Tryd.func10 (by kernel_rfl) rfl #[.string ((rdOf ByteArray.empty t132 (ji31)).extract 0 ((ji40) : Int).toNat)] (by rfl) rfl rfl (by (try simp only [List.map_toArray,List.map_cons,List.map_nil]);rfl) ?_
                        with_reducible refine (spec_l1Read.calls k3 ((rdOf ByteArray.empty t132 (ji31)).extract 0 ((ji40) : Int).toNat) t150 true _ A43.out).mono ?_
                        rintro e w49 ⟨rfl,hb⟩
                        have HS0_:=(hb.cell (World.block_lt_of_cell? _ _ (hHeld.1))).trans (hHeld.1)
                        have HS1_:=(hb.cell (World.block_lt_of_cell? _ _ (hHeld.2))).trans (hHeld.2)
                        refine ⟨_,rfl, ?_⟩
                        have n0_:=Aside0.mk (Kd.R_below (by exact HO_4.out) hb)
                        have n1_:=Aside0.mk (Kd.R_below (by exact HO_136001.out) hb)
                        have n2_:=Aside0.mk (blk_below (g:=gb131) (o := .cells #[.int .i64 x132000_3, .slice none 0 0, .int .i64 x132002_3] 24 (0,0)) (by exact BK131.out) hb)
                        have n3_:=Aside0.mk (blk_below (g:=gb135) (o := .cells #[.int .i64 t137,u136001, .int .i64 t140] 24 (0,0)) (by exact BK135.out) hb)
                        have n4_:=Aside0.mk (below_step (by exact HB.out) hb)
                        clear HO_4
                        clear HO_136001
                        clear BK131
                        clear BK135
                        clear HB
                        have HO_4:=n0_
                        have HO_136001:=n1_
                        have BK131:=n2_
                        have BK135:=n3_
                        have HB:=n4_
                        clear n0_ n1_ n2_ n3_ n4_
                        (try clear hb)
                        (skip)
                        (skip)
                        (skip)
                        refine hK.out _ _ ⟨HS0_,HS1_⟩ (fun hHeld => ?_)
                        clear hK K
                        refine norm_ (a':=?_) ?_ ?_
                        rotate_left
                        ·show Act.put _ (some 98) _ = _
                         simp only [Act.put,sA_,s0_,s1_,i64_w,i32_w]
                         rfl
                        refine pure_ (i:=14) (N:=some 84) (v:=?_) (a':=?_) #[true,true,true,true,true,true,true,true,true,true,true,true,true,true,true,false,false,false,false] rfl rfl (any_of HT_.out (by kernel_rfl)) (fun _ _ _ h => h) (Or.inl ⟨by rfl, ?_⟩) ?_ ?_
                        rotate_left
                        ·intro w'
                         go_simp
                         with_reducible rfl
                        rotate_left
                        ·simp only [Act.put,sA_,s0_,s1_,i64_w,i32_w]
                         rfl
                        refine pure_ (i:=15) (N:=some 99) (v:=?_) (a':=?_) #[true,true,true,true,true,true,true,true,true,true,true,true,true,true,true,true,false,false,false] rfl rfl (any_of HT_.out (by kernel_rfl)) (fun _ _ _ h => h) (Or.inl ⟨by rfl, ?_⟩) ?_ ?_
                        rotate_left
                        ·intro w'
                         go_simp
                         with_reducible rfl
                        rotate_left
                        ·simp only [Act.put,sA_,s0_,s1_,i64_w,i32_w]
                         rfl
                        refine pure_ (i:=16) (N:=some 100) (v:=?_) (a':=?_) #[true,true,true,true,true,true,true,true,true,true,true,true,true,true,true,true,true,false,false] rfl rfl (any_of HT_.out (by kernel_rfl)) (fun _ _ _ h => h) (Or.inl ⟨by rfl, ?_⟩) ?_ ?_
                        rotate_left
                        ·intro w'
                         go_simp
                         with_reducible rfl
                        rotate_left
                        ·simp only [Act.put,sA_,s0_,s1_,i64_w,i32_w]
                         rfl
                        refine pure_ (i:=17) (N:=some 14) (v:=?_) (a':=?_) #[true,true,true,true,true,true,true,true,true,true,true,true,true,true,true,true,true,true,false] rfl rfl (any_of HT_.out (by kernel_rfl)) (fun _ _ _ h => h) (Or.inl ⟨by rfl, ?_⟩) ?_ ?_
                        rotate_left
                        ·intro w'
                         go_simp
                         with_reducible rfl
                        rotate_left
                        ·simp only [Act.put,sA_,s0_,s1_,i64_w,i32_w]
                         rfl
                        refine pure_ (i:=18) (N:=some 15) (v:=?_) (a':=?_) #[true,true,true,true,true,true,true,true,true,true,true,true,true,true,true,true,true,true,true] rfl rfl (any_of HT_.out (by kernel_rfl)) (fun _ _ _ h => h) (Or.inl ⟨by rfl, ?_⟩) ?_ ?_
                        rotate_left
                        ·intro w'
                         go_simp
                         with_reducible rfl
                        rotate_left
                        ·simp only [Act.put,sA_,s0_,s1_,i64_w,i32_w]
                         rfl
                        refine done_ (done_of HT_.out (by kernel_rfl)) ?_
                        have hnb50:=NB135_131.out
                        have hnc50:=NB131_135.out
                        have hcz51_0 : w49.cell? ⟨gb135,0,none⟩ = some (.int .i64 t137):=(blk_cell BK135.out 0).trans rfl
                        have hcz51_1 : w49.cell? ⟨gb135,1,none⟩ = some (u136001):=(blk_cell BK135.out 1).trans rfl
                        have hcz51_2 : w49.cell? ⟨gb135,2,none⟩ = some (.int .i64 t140):=(blk_cell BK135.out 2).trans rfl
                        have hfz51_0:=blk_frozen BK135.out 0
                        have hfz51_1:=blk_frozen BK135.out 1
                        have hfz51_2:=blk_frozen BK135.out 2
                        try go_wp2_with (((with_reducible refine gate_builtin (b := .append) (xs:=#[.tmp 109, .tmp 113]) rfl ?_);at_builtin;refine Kd.R_append k35 (w0:=w) w.heap.size rfl (.tmp 109) (.tmp 113) 22 35 (.agg #[(.int .i64 0),(.int .i64 0)]) 16 rfl Tryd.underlying22 info35 rfl (by decide) (by omega) u136001 x136001_3 (⟨t146,t150⟩ : S35) [.int .i64 t146, .int .i64 t150] (fun _ => True) (fun _ => False) rfl rfl ?aP (fun _ hk => hk.elim) ?aF ?aO ?aB ?aS ?aL ?_;(case aP => exact k35_mkM _ _ _ (⟨t146,t150⟩ : S35));(case aB => exact (by exact HB.out));(case aF => exact (fun _ _ => trivial));(case aO => exact (by exact HO_136001.out));(case aS => exact (below_size (by exact HB.out)));(case aL => have:=LMc46.out;omega);intro v153 w52 ho hb hg hat;rw [← Ny152.out] at ho;have n0_:=Aside0.mk (Kd.R_over' (by exact HO_4.out) (Kd.R_typed (by exact HO_136001.out)) (by decide) hg);have n1_:=Aside0.mk (blk_grown (g:=gb131) (o := .cells #[.int .i64 x132000_3, .slice none 0 0, .int .i64 x132002_3] 24 (0,0)) (by exact BK131.out) hg (Kd.R_ne HO_136001.out BK131.out (by decide)));have n2_:=Aside0.mk (blk_grown (g:=gb135) (o := .cells #[.int .i64 t137,u136001, .int .i64 t140] 24 (0,0)) (by exact BK135.out) hg (Kd.R_ne HO_136001.out BK135.out (by decide)));have n3_:=Aside0.mk (hb);have n4_:=Aside0.mk (ho);clear HO_4;clear BK131;clear BK135;clear HB;clear HO_136001;have HO_4:=n0_;have BK131:=n1_;have BK135:=n2_;have HB:=n3_;have HO154:=n4_;clear n0_ n1_ n2_ n3_ n4_;clear ho hb hg hat;obtain ⟨Ao53,co53,eo53⟩ := Kd.R_slice HO154.out;subst eo53;have hcz54_0 : w52.cell? ⟨gb135,0,none⟩ = some (.int .i64 t137):=(blk_cell BK135.out 0).trans rfl;have hcz54_1 : w52.cell? ⟨gb135,1,none⟩ = some (u136001):=(blk_cell BK135.out 1).trans rfl;have hcz54_2 : w52.cell? ⟨gb135,2,none⟩ = some (.int .i64 t140):=(blk_cell BK135.out 2).trans rfl;have hfz54_0:=blk_frozen BK135.out 0;have hfz54_1:=blk_frozen BK135.out 1;have hfz54_2:=blk_frozen BK135.out 2))
                        go_roundg k3
                        case measure => have:=HJ5.out;have:=HJ18.out;have:=HK3.out;omega
                        case rel => exact ⟨(wrap64 (x11_3 + 3)),(x132000_3),(x132002_3),(y152),(.slice Ao53 y152.length co53),(by rfl),H',⟨by have:=HJ5.out;have:=HJ18.out;have:=HK3.out;omega⟩,⟨by exact Kd.R_mono (Kd.R_far (p:=⟨gb135,1,none⟩) (Kd.R_types HO_4.out BK135.out (by decide)) (fun _ hk => hk.2) (.slice Ao53 y152.length co53)) (fun _ hk => trivial)⟩,⟨by exact Kd.R_mono (Kd.R_far (p:=⟨gb135,1,none⟩) (Kd.R_types HO154.out BK135.out (by decide)) (fun _ hk => hk.2) (.slice Ao53 y152.length co53)) (fun _ hk => trivial)⟩,⟨by refine blk_far ?_ NB131_135.out _;exact BK131.out⟩,⟨by refine blk_put (cs:=#[.int .i64 t137,u136001, .int .i64 t140]) ?_ 1 _ rfl;exact BK135.out⟩,⟨by repeat ((with_reducible first | exact HB.out | refine below_set ?_ GE135.out))⟩⟩
                       ·rw [if_neg c46] at H
                        exact absurd H (by simp)
                      ·replace c45:=Bool.eq_false_iff.mpr c45
                       subst c45
                       have H1 : (some (0,([] : List (S35)),0,false)) = some (r1,r2,r3,r4):=by rw [if_neg (show ¬ (false = true) by decide)] at H;exact H
                       clear H
                       have H:=H1
                       clear H1
                       simp only [Option.some.injEq,Prod.mk.injEq] at H
                       obtain ⟨rfl,rfl,rfl,rfl⟩ := H
                       have p144 : 0 ≤ ((ji31) : Int):=of_decide_eq_true (by (with_reducible assumption))
                       have q144 : (ji31) < (t132.length : Int):=of_decide_eq_true (by (with_reducible assumption))
                       obtain ⟨ad144,e144,hx144_0⟩ := Kd.at_string (Kd.R_reads' HO_4.out).2.2 (ji31) p144 q144
                       obtain rfl : ad136 = ad144:=(by injection e144)
                       replace p144:=eq_true p144
                       replace q144:=eq_true q144
                       have p145 : 0 ≤ (x11_3 : Int):=of_decide_eq_true (by (with_reducible assumption))
                       have q145 : x11_3 < (t132.length : Int):=of_decide_eq_true (by (with_reducible assumption))
                       obtain ⟨ad145,e145,hx145_0⟩ := Kd.at_string (Kd.R_reads' HO_4.out).2.2 x11_3 p145 q145
                       obtain rfl : ad136 = ad145:=(by injection e145)
                       replace p145:=eq_true p145
                       replace q145:=eq_true q145
                       try go_wp2_with (((with_reducible refine gate_callee (f:=10) rfl ?_);refine goesL_ (some 81) rfl rfl Tryd.func10 (by kernel_rfl) rfl #[.string (rdOf ByteArray.empty t132 x11_3)] rfl (by (try simp only [List.map_toArray,List.map_cons,List.map_nil]);rfl) ?_;(with_reducible refine (spec_l1Read.calls k3 (rdOf ByteArray.empty t132 x11_3) t146 true _ A39.out).mono ?_);rintro e w55 ⟨rfl,hb⟩;refine ⟨_,rfl, ?_⟩;have n0_:=Aside0.mk (Kd.R_below (by exact HO_4.out) hb);have n1_:=Aside0.mk (Kd.R_below (by exact HO_136001.out) hb);have n2_:=Aside0.mk (blk_below (g:=gb131) (o := .cells #[.int .i64 x132000_3, .slice none 0 0, .int .i64 x132002_3] 24 (0,0)) (by exact BK131.out) hb);have n3_:=Aside0.mk (blk_below (g:=gb135) (o := .cells #[.int .i64 t137,u136001, .int .i64 t140] 24 (0,0)) (by exact BK135.out) hb);have n4_:=Aside0.mk (below_step (by exact HB.out) hb);clear HO_4;clear HO_136001;clear BK131;clear BK135;clear HB;have HO_4:=n0_;have HO_136001:=n1_;have BK131:=n2_;have BK135:=n3_;have HB:=n4_;clear n0_ n1_ n2_ n3_ n4_;(try clear hb)))
                       have n0_:=Aside0.mk (Kd.R_drew HO_4.out)
                       have n1_:=Aside0.mk (Kd.R_drew HO_136001.out)
                       have n2_:=Aside0.mk (blk_drew BK131.out)
                       have n3_:=Aside0.mk (blk_drew BK135.out)
                       have n4_:=Aside0.mk (below_drew1 HB.out)
                       clear HO_4
                       clear HO_136001
                       clear BK131
                       clear BK135
                       clear HB
                       have HO_4:=n0_
                       have HO_136001:=n1_
                       have BK131:=n2_
                       have BK135:=n3_
                       have HB:=n4_
                       clear n0_ n1_ n2_ n3_ n4_
                       have p148 : 0 ≤ ((ji31) : Int):=of_decide_eq_true (by (with_reducible assumption))
                       have q148 : (ji31) < (t132.length : Int):=of_decide_eq_true (by (with_reducible assumption))
                       obtain ⟨ad148,e148,hx148_0⟩ := Kd.at_string (Kd.R_reads' HO_4.out).2.2 (ji31) p148 q148
                       obtain rfl : ad136 = ad148:=(by injection e148)
                       replace p148:=eq_true p148
                       replace q148:=eq_true q148
                       have p149 : 0 ≤ ((ji31) : Int):=of_decide_eq_true (by (with_reducible assumption))
                       have q149 : (ji31) < (t132.length : Int):=of_decide_eq_true (by (with_reducible assumption))
                       obtain ⟨ad149,e149,hx149_0⟩ := Kd.at_string (Kd.R_reads' HO_4.out).2.2 (ji31) p149 q149
                       obtain rfl : ad136 = ad149:=(by injection e149)
                       replace p149:=eq_true p149
                       replace q149:=eq_true q149
                       refine start_ (n:=19) (S:=fun w' => w'.cell? (ad136.add ((ji31)).toNat) = some (.string (rdOf ByteArray.empty t132 (ji31))) ∧ w'.cell? (ad136.add ((ji31)).toNat) = some (.string (rdOf ByteArray.empty t132 (ji31)))) (ds := []) #[false,false,false,false,false,false,false,false,false,false,false,false,false,false,false,false,false,false,false] (by kernel_rfl) rfl rfl ⟨hx148_0,hx149_0⟩ (fun hHeld => ?_);refine with_tabW spec_ParseCharge.tab20 spec_ParseCharge.bits20 (fun HT_ HW_ => ?_)
                       generalize w55.drew = w56 at HO_4 HO_136001 BK131 BK135 HB hx148_0 hx149_0 hHeld ⊢
                       refine pure_ (i:=0) (N:=some 85) (v:=?_) (a':=?_) #[true,false,false,false,false,false,false,false,false,false,false,false,false,false,false,false,false,false,false] rfl rfl (any_of HT_.out (by kernel_rfl)) (fun _ _ _ h => h) (Or.inl ⟨by rfl, ?_⟩) ?_ ?_
                       rotate_left
                       ·intro w'
                        go_simp
                        with_reducible rfl
                       rotate_left
                       ·simp only [Act.put,sA_,s0_,s1_,i64_w,i32_w]
                        rfl
                       refine pure_ (i:=1) (N:=some 86) (v:=?_) (a':=?_) #[true,true,false,false,false,false,false,false,false,false,false,false,false,false,false,false,false,false,false] rfl rfl (any_of HT_.out (by kernel_rfl)) (fun _ _ _ h => h) (Or.inl ⟨by rfl, ?_⟩) ?_ ?_
                       rotate_left
                       ·intro w'
                        go_simp
                        with_reducible rfl
                       rotate_left
                       ·simp only [Act.put,sA_,s0_,s1_,i64_w,i32_w]
                        rfl
                       refine pure_ (i:=2) (N:=some 87) (v:=?_) (a':=?_) #[true,true,true,false,false,false,false,false,false,false,false,false,false,false,false,false,false,false,false] rfl rfl (any_of HT_.out (by kernel_rfl)) (fun _ _ _ h => h) (Or.inl ⟨by rfl, ?_⟩) ?_ ?_
                       rotate_left
                       ·intro w'
                        go_simp
                        with_reducible rfl
                       rotate_left
                       ·simp only [Act.put,sA_,s0_,s1_,i64_w,i32_w]
                        rfl
                       refine pure_ (i:=3) (N:=some 88) (v:=?_) (a':=?_) #[true,true,true,true,false,false,false,false,false,false,false,false,false,false,false,false,false,false,false] rfl rfl (any_of HT_.out (by kernel_rfl)) (fun _ _ _ h => h) (Or.inl ⟨by rfl, ?_⟩) ?_ ?_
                       rotate_left
                       ·intro w'
                        go_simp
                        with_reducible rfl
                       rotate_left
                       ·simp only [Act.put,sA_,s0_,s1_,i64_w,i32_w]
                        rfl
                       refine pure_ (i:=5) (N:=some 90) (v:=?_) (a':=?_) #[true,true,true,true,false,true,false,false,false,false,false,false,false,false,false,false,false,false,false] rfl rfl (any_of HT_.out (by kernel_rfl)) (fun _ _ _ h => h) (Or.inl ⟨by rfl, ?_⟩) ?_ ?_
                       rotate_left
                       ·intro w'
                        go_simp
                        with_reducible rfl
                       rotate_left
                       ·simp only [Act.put,sA_,s0_,s1_,i64_w,i32_w]
                        rfl
                       refine pure_ (i:=6) (N:=some 91) (v:=?_) (a':=?_) #[true,true,true,true,false,true,true,false,false,false,false,false,false,false,false,false,false,false,false] rfl rfl (any_of HT_.out (by kernel_rfl)) (fun _ _ _ h => h) (Or.inl ⟨by rfl, ?_⟩) ?_ ?_
                       rotate_left
                       ·intro w'
                        go_simp
                        with_reducible rfl
                       rotate_left
                       ·simp only [Act.put,sA_,s0_,s1_,i64_w,i32_w]
                        rfl
                       refine pure_ (i:=7) (N:=some 92) (v:=?_) (a':=?_) #[true,true,true,true,false,true,true,true,false,false,false,false,false,false,false,false,false,false,false] rfl rfl (any_of HT_.out (by kernel_rfl)) (fun _ _ _ h => h) (Or.inl ⟨by rfl, ?_⟩) ?_ ?_
                       rotate_left
                       ·intro w'
                        go_simp
                        with_reducible rfl
                       rotate_left
                       ·simp only [Act.put,sA_,s0_,s1_,i64_w,i32_w]
                        rfl
                       refine pure_ (i:=8) (N:=some 93) (v:=?_) (a':=?_) #[true,true,true,true,false,true,true,true,true,false,false,false,false,false,false,false,false,false,false] rfl rfl (any_of HT_.out (by kernel_rfl)) (fun _ _ _ h => h) (Or.inl ⟨by rfl, ?_⟩) ?_ ?_
                       rotate_left
                       ·intro w'
                        go_simp
                        with_reducible rfl
                       rotate_left
                       ·simp only [Act.put,sA_,s0_,s1_,i64_w,i32_w]
                        rfl
                       refine take_ (i:=4) (N:=some 89) (v:=?_) (a':=?_) #[true,true,true,true,true,true,true,true,true,false,false,false,false,false,false,false,false,false,false] rfl rfl (take_ofW HT_.out HW_.out (by kernel_rfl)) (fun _ _ _ h => h) (Or.inl ⟨by rfl, ?_⟩) hHeld ?_ ?_
                       rotate_left
                       ·rintro w' ⟨s0,s1⟩
                        go_simp
                        with_reducible rfl
                       rotate_left
                       ·simp only [Act.put,sA_,s0_,s1_,i64_w,i32_w]
                        rfl
                       refine take_ (i:=9) (N:=some 94) (v:=?_) (a':=?_) #[true,true,true,true,true,true,true,true,true,true,false,false,false,false,false,false,false,false,false] rfl rfl (take_ofW HT_.out HW_.out (by kernel_rfl)) (fun _ _ _ h => h) (Or.inl ⟨by rfl, ?_⟩) hHeld ?_ ?_
                       rotate_left
                       ·rintro w' ⟨s0,s1⟩
                        go_simp
                        with_reducible rfl
                       rotate_left
                       ·simp only [Act.put,sA_,s0_,s1_,i64_w,i32_w]
                        rfl
                       refine pure_ (i:=10) (N:=some 95) (v:=?_) (a':=?_) #[true,true,true,true,true,true,true,true,true,true,true,false,false,false,false,false,false,false,false] rfl rfl (any_of HT_.out (by kernel_rfl)) (fun _ _ _ h => h) (Or.inl ⟨by rfl, ?_⟩) ?_ ?_
                       rotate_left
                       ·intro w'
                        go_simp
                        with_reducible rfl
                       rotate_left
                       ·simp only [Act.put,sA_,s0_,s1_,i64_w,i32_w]
                        rfl
                       refine pure_ (i:=11) (N:=some 96) (v:=?_) (a':=?_) #[true,true,true,true,true,true,true,true,true,true,true,true,false,false,false,false,false,false,false] rfl rfl (any_of HT_.out (by kernel_rfl)) (fun _ _ _ h => h) (Or.inl ⟨by rfl, ?_⟩) ?_ ?_
                       rotate_left
                       ·intro w'
                        go_simp
                        with_reducible rfl
                       rotate_left
                       ·simp only [Act.put,sA_,s0_,s1_,i64_w,i32_w]
                        rfl
                       refine pure_ (i:=12) (N:=some 97) (v:=?_) (a':=?_) #[true,true,true,true,true,true,true,true,true,true,true,true,true,false,false,false,false,false,false] rfl rfl (any_of HT_.out (by kernel_rfl)) (fun _ _ _ h => h) (Or.inl ⟨by rfl, ?_⟩) ?_ ?_
                       rotate_left
                       ·intro w'
                        go_simp
                        with_reducible rfl
                       rotate_left
                       ·simp only [Act.put,sA_,s0_,s1_,i64_w,i32_w]
                        rfl
                       refine one_ (i:=13) (N:=some 98) #[true,true,true,true,true,true,true,true,true,true,true,true,true,true,false,false,false,false,false] rfl rfl (one_of HT_.out (by kernel_rfl)) (by decide) (fun K hK => ?_)
                       refine goes_ Tryd.func10 (by kernel_rfl) rfl #[.string ((rdOf ByteArray.empty t132 (ji31)).extract 0 ((ji40) : Int).toNat)] (by rfl) rfl rfl (by (try simp only [List.map_toArray,List.map_cons,List.map_nil]);rfl) ?_
                       with_reducible refine (spec_l1Read.calls k3 ((rdOf ByteArray.empty t132 (ji31)).extract 0 ((ji40) : Int).toNat) t150 false _ A43.out).mono ?_
                       rintro e w57 ⟨rfl,hb⟩
                       have HS0_:=(hb.cell (World.block_lt_of_cell? _ _ (hHeld.1))).trans (hHeld.1)
                       have HS1_:=(hb.cell (World.block_lt_of_cell? _ _ (hHeld.2))).trans (hHeld.2)
                       refine ⟨_,rfl, ?_⟩
                       have n0_:=Aside0.mk (Kd.R_below (by exact HO_4.out) hb)
                       have n1_:=Aside0.mk (Kd.R_below (by exact HO_136001.out) hb)
                       have n2_:=Aside0.mk (blk_below (g:=gb131) (o := .cells #[.int .i64 x132000_3, .slice none 0 0, .int .i64 x132002_3] 24 (0,0)) (by exact BK131.out) hb)
                       have n3_:=Aside0.mk (blk_below (g:=gb135) (o := .cells #[.int .i64 t137,u136001, .int .i64 t140] 24 (0,0)) (by exact BK135.out) hb)
                       have n4_:=Aside0.mk (below_step (by exact HB.out) hb)
                       clear HO_4
                       clear HO_136001
                       clear BK131
                       clear BK135
                       clear HB
                       have HO_4:=n0_
                       have HO_136001:=n1_
                       have BK131:=n2_
                       have BK135:=n3_
                       have HB:=n4_
                       clear n0_ n1_ n2_ n3_ n4_
                       (try clear hb)
                       (skip)
                       (skip)
                       (skip)
                       refine hK.out _ _ ⟨HS0_,HS1_⟩ (fun hHeld => ?_)
                       clear hK K
                       refine norm_ (a':=?_) ?_ ?_
                       rotate_left
                       ·show Act.put _ (some 98) _ = _
                        simp only [Act.put,sA_,s0_,s1_,i64_w,i32_w]
                        rfl
                       refine pure_ (i:=14) (N:=some 84) (v:=?_) (a':=?_) #[true,true,true,true,true,true,true,true,true,true,true,true,true,true,true,false,false,false,false] rfl rfl (any_of HT_.out (by kernel_rfl)) (fun _ _ _ h => h) (Or.inl ⟨by rfl, ?_⟩) ?_ ?_
                       rotate_left
                       ·intro w'
                        go_simp
                        with_reducible rfl
                       rotate_left
                       ·simp only [Act.put,sA_,s0_,s1_,i64_w,i32_w]
                        rfl
                       refine pure_ (i:=15) (N:=some 99) (v:=?_) (a':=?_) #[true,true,true,true,true,true,true,true,true,true,true,true,true,true,true,true,false,false,false] rfl rfl (any_of HT_.out (by kernel_rfl)) (fun _ _ _ h => h) (Or.inl ⟨by rfl, ?_⟩) ?_ ?_
                       rotate_left
                       ·intro w'
                        go_simp
                        with_reducible rfl
                       rotate_left
                       ·simp only [Act.put,sA_,s0_,s1_,i64_w,i32_w]
                        rfl
                       refine pure_ (i:=16) (N:=some 100) (v:=?_) (a':=?_) #[true,true,true,true,true,true,true,true,true,true,true,true,true,true,true,true,true,false,false] rfl rfl (any_of HT_.out (by kernel_rfl)) (fun _ _ _ h => h) (Or.inl ⟨by rfl, ?_⟩) ?_ ?_
                       rotate_left
                       ·intro w'
                        go_simp
                        with_reducible rfl
                       rotate_left
                       ·simp only [Act.put,sA_,s0_,s1_,i64_w,i32_w]
                        rfl
                       refine pure_ (i:=17) (N:=some 14) (v:=?_) (a':=?_) #[true,true,true,true,true,true,true,true,true,true,true,true,true,true,true,true,true,true,false] rfl rfl (any_of HT_.out (by kernel_rfl)) (fun _ _ _ h => h) (Or.inl ⟨by rfl, ?_⟩) ?_ ?_
                       rotate_left
                       ·intro w'
                        go_simp
                        with_reducible rfl
                       rotate_left
                       ·simp only [Act.put,sA_,s0_,s1_,i64_w,i32_w]
                        rfl
                       refine pure_ (i:=18) (N:=some 15) (v:=?_) (a':=?_) #[true,true,true,true,true,true,true,true,true,true,true,true,true,true,true,true,true,true,true] rfl rfl (any_of HT_.out (by kernel_rfl)) (fun _ _ _ h => h) (Or.inl ⟨by rfl, ?_⟩) ?_ ?_
                       rotate_left
                       ·intro w'
                        go_simp
                        with_reducible rfl
                       rotate_left
                       ·simp only [Act.put,sA_,s0_,s1_,i64_w,i32_w]
                        rfl
                       refine done_ (done_of HT_.out (by kernel_rfl)) ?_
                       have hnb58:=NB131_135.out
                       have hnc58:=NB135_131.out
                       have hcz59_0 : w57.cell? ⟨gb131,0,none⟩ = some (.int .i64 x132000_3):=(blk_cell BK131.out 0).trans rfl
                       have hcz59_1 : w57.cell? ⟨gb131,1,none⟩ = some (.slice none 0 0):=(blk_cell BK131.out 1).trans rfl
                       have hcz59_2 : w57.cell? ⟨gb131,2,none⟩ = some (.int .i64 x132002_3):=(blk_cell BK131.out 2).trans rfl
                       have hfz59_0:=blk_frozen BK131.out 0
                       have hfz59_1:=blk_frozen BK131.out 1
                       have hfz59_2:=blk_frozen BK131.out 2
                       try go_wp2
                       refine bodyPost_ret (results_ct rfl _ _ gb131 24 #[.int .i64 0, .slice none 0 0, .int .i64 0] (0,0) _ rfl (by refine blk_put (cs:=#[.int .i64 0, .slice none 0 0, .int .i64 x132002_3]) ?_ 2 _ rfl;refine blk_put (cs:=#[.int .i64 0, .slice none 0 0, .int .i64 x132002_3]) ?_ 1 _ rfl;refine blk_put (cs:=#[.int .i64 x132000_3, .slice none 0 0, .int .i64 x132002_3]) ?_ 0 _ rfl;exact BK131.out) Tryd.underlying24 rfl (by kernel_rfl)) rfl ?_
                       exact ⟨_,by rfl,by exact Kd.R_nil _ _ _ _ _,by repeat ((with_reducible first | exact HB.out | refine below_set ?_ GE131.out))⟩
                     ·replace c44:=Bool.eq_false_iff.mpr c44
                      subst c44
                      have H1 : (some (0,([] : List (S35)),0,false)) = some (r1,r2,r3,r4):=by rw [if_neg (show ¬ (false = true) by decide)] at H;exact H
                      clear H
                      have H:=H1
                      clear H1
                      simp only [Option.some.injEq,Prod.mk.injEq] at H
                      obtain ⟨rfl,rfl,rfl,rfl⟩ := H
                      have p144 : 0 ≤ ((ji31) : Int):=of_decide_eq_true (by (with_reducible assumption))
                      have q144 : (ji31) < (t132.length : Int):=of_decide_eq_true (by (with_reducible assumption))
                      obtain ⟨ad144,e144,hx144_0⟩ := Kd.at_string (Kd.R_reads' HO_4.out).2.2 (ji31) p144 q144
                      obtain rfl : ad136 = ad144:=(by injection e144)
                      replace p144:=eq_true p144
                      replace q144:=eq_true q144
                      have p145 : 0 ≤ (x11_3 : Int):=of_decide_eq_true (by (with_reducible assumption))
                      have q145 : x11_3 < (t132.length : Int):=of_decide_eq_true (by (with_reducible assumption))
                      obtain ⟨ad145,e145,hx145_0⟩ := Kd.at_string (Kd.R_reads' HO_4.out).2.2 x11_3 p145 q145
                      obtain rfl : ad136 = ad145:=(by injection e145)
                      replace p145:=eq_true p145
                      replace q145:=eq_true q145
                      try go_wp2_with (((with_reducible refine gate_callee (f:=10) rfl ?_);refine goesL_ (some 81) rfl rfl Tryd.func10 (by kernel_rfl) rfl #[.string (rdOf ByteArray.empty t132 x11_3)] rfl (by (try simp only [List.map_toArray,List.map_cons,List.map_nil]);rfl) ?_;(with_reducible refine (spec_l1Read.calls k3 (rdOf ByteArray.empty t132 x11_3) t146 false _ A39.out).mono ?_);rintro e w60 ⟨rfl,hb⟩;refine ⟨_,rfl, ?_⟩;have n0_:=Aside0.mk (Kd.R_below (by exact HO_4.out) hb);have n1_:=Aside0.mk (Kd.R_below (by exact HO_136001.out) hb);have n2_:=Aside0.mk (blk_below (g:=gb131) (o := .cells #[.int .i64 x132000_3, .slice none 0 0, .int .i64 x132002_3] 24 (0,0)) (by exact BK131.out) hb);have n3_:=Aside0.mk (blk_below (g:=gb135) (o := .cells #[.int .i64 t137,u136001, .int .i64 t140] 24 (0,0)) (by exact BK135.out) hb);have n4_:=Aside0.mk (below_step (by exact HB.out) hb);clear HO_4;clear HO_136001;clear BK131;clear BK135;clear HB;have HO_4:=n0_;have HO_136001:=n1_;have BK131:=n2_;have BK135:=n3_;have HB:=n4_;clear n0_ n1_ n2_ n3_ n4_;(try clear hb)))
                      have n0_:=Aside0.mk (Kd.R_drew HO_4.out)
                      have n1_:=Aside0.mk (Kd.R_drew HO_136001.out)
                      have n2_:=Aside0.mk (blk_drew BK131.out)
                      have n3_:=Aside0.mk (blk_drew BK135.out)
                      have n4_:=Aside0.mk (below_drew1 HB.out)
                      clear HO_4
                      clear HO_136001
                      clear BK131
                      clear BK135
                      clear HB
                      have HO_4:=n0_
                      have HO_136001:=n1_
                      have BK131:=n2_
                      have BK135:=n3_
                      have HB:=n4_
                      clear n0_ n1_ n2_ n3_ n4_
                      have p148 : 0 ≤ ((ji31) : Int):=of_decide_eq_true (by (with_reducible assumption))
                      have q148 : (ji31) < (t132.length : Int):=of_decide_eq_true (by (with_reducible assumption))
                      obtain ⟨ad148,e148,hx148_0⟩ := Kd.at_string (Kd.R_reads' HO_4.out).2.2 (ji31) p148 q148
                      obtain rfl : ad136 = ad148:=(by injection e148)
                      replace p148:=eq_true p148
                      replace q148:=eq_true q148
                      have p149 : 0 ≤ ((ji31) : Int):=of_decide_eq_true (by (with_reducible assumption))
                      have q149 : (ji31) < (t132.length : Int):=of_decide_eq_true (by (with_reducible assumption))
                      obtain ⟨ad149,e149,hx149_0⟩ := Kd.at_string (Kd.R_reads' HO_4.out).2.2 (ji31) p149 q149
                      obtain rfl : ad136 = ad149:=(by injection e149)
                      replace p149:=eq_true p149
                      replace q149:=eq_true q149
                      refine start_ (n:=19) (S:=fun w' => w'.cell? (ad136.add ((ji31)).toNat) = some (.string (rdOf ByteArray.empty t132 (ji31))) ∧ w'.cell? (ad136.add ((ji31)).toNat) = some (.string (rdOf ByteArray.empty t132 (ji31)))) (ds := []) #[false,false,false,false,false,false,false,false,false,false,false,false,false,false,false,false,false,false,false] (by kernel_rfl) rfl rfl ⟨hx148_0,hx149_0⟩ (fun hHeld => ?_);refine with_tabW spec_ParseCharge.tab20 spec_ParseCharge.bits20 (fun HT_ HW_ => ?_)
                      generalize w60.drew = w61 at HO_4 HO_136001 BK131 BK135 HB hx148_0 hx149_0 hHeld ⊢
                      refine pure_ (i:=0) (N:=some 85) (v:=?_) (a':=?_) #[true,false,false,false,false,false,false,false,false,false,false,false,false,false,false,false,false,false,false] rfl rfl (any_of HT_.out (by kernel_rfl)) (fun _ _ _ h => h) (Or.inl ⟨by rfl, ?_⟩) ?_ ?_
                      rotate_left
                      ·intro w'
                       go_simp
                       with_reducible rfl
                      rotate_left
                      ·simp only [Act.put,sA_,s0_,s1_,i64_w,i32_w]
                       rfl
                      refine pure_ (i:=1) (N:=some 86) (v:=?_) (a':=?_) #[true,true,false,false,false,false,false,false,false,false,false,false,false,false,false,false,false,false,false] rfl rfl (any_of HT_.out (by kernel_rfl)) (fun _ _ _ h => h) (Or.inl ⟨by rfl, ?_⟩) ?_ ?_
                      rotate_left
                      ·intro w'
                       go_simp
                       with_reducible rfl
                      rotate_left
                      ·simp only [Act.put,sA_,s0_,s1_,i64_w,i32_w]
                       rfl
                      refine pure_ (i:=2) (N:=some 87) (v:=?_) (a':=?_) #[true,true,true,false,false,false,false,false,false,false,false,false,false,false,false,false,false,false,false] rfl rfl (any_of HT_.out (by kernel_rfl)) (fun _ _ _ h => h) (Or.inl ⟨by rfl, ?_⟩) ?_ ?_
                      rotate_left
                      ·intro w'
                       go_simp
                       with_reducible rfl
                      rotate_left
                      ·simp only [Act.put,sA_,s0_,s1_,i64_w,i32_w]
                       rfl
                      refine pure_ (i:=3) (N:=some 88) (v:=?_) (a':=?_) #[true,true,true,true,false,false,false,false,false,false,false,false,false,false,false,false,false,false,false] rfl rfl (any_of HT_.out (by kernel_rfl)) (fun _ _ _ h => h) (Or.inl ⟨by rfl, ?_⟩) ?_ ?_
                      rotate_left
                      ·intro w'
                       go_simp
                       with_reducible rfl
                      rotate_left
                      ·simp only [Act.put,sA_,s0_,s1_,i64_w,i32_w]
                       rfl
                      refine pure_ (i:=5) (N:=some 90) (v:=?_) (a':=?_) #[true,true,true,true,false,true,false,false,false,false,false,false,false,false,false,false,false,false,false] rfl rfl (any_of HT_.out (by kernel_rfl)) (fun _ _ _ h => h) (Or.inl ⟨by rfl, ?_⟩) ?_ ?_
                      rotate_left
                      ·intro w'
                       go_simp
                       with_reducible rfl
                      rotate_left
                      ·simp only [Act.put,sA_,s0_,s1_,i64_w,i32_w]
                       rfl
                      refine pure_ (i:=6) (N:=some 91) (v:=?_) (a':=?_) #[true,true,true,true,false,true,true,false,false,false,false,false,false,false,false,false,false,false,false] rfl rfl (any_of HT_.out (by kernel_rfl)) (fun _ _ _ h => h) (Or.inl ⟨by rfl, ?_⟩) ?_ ?_
                      rotate_left
                      ·intro w'
                       go_simp
                       with_reducible rfl
                      rotate_left
                      ·simp only [Act.put,sA_,s0_,s1_,i64_w,i32_w]
                       rfl
                      refine pure_ (i:=7) (N:=some 92) (v:=?_) (a':=?_) #[true,true,true,true,false,true,true,true,false,false,false,false,false,false,false,false,false,false,false] rfl rfl (any_of HT_.out (by kernel_rfl)) (fun _ _ _ h => h) (Or.inl ⟨by rfl, ?_⟩) ?_ ?_
                      rotate_left
                      ·intro w'
                       go_simp
                       with_reducible rfl
                      rotate_left
                      ·simp only [Act.put,sA_,s0_,s1_,i64_w,i32_w]
                       rfl
                      refine pure_ (i:=8) (N:=some 93) (v:=?_) (a':=?_) #[true,true,true,true,false,true,true,true,true,false,false,false,false,false,false,false,false,false,false] rfl rfl (any_of HT_.out (by kernel_rfl)) (fun _ _ _ h => h) (Or.inl ⟨by rfl, ?_⟩) ?_ ?_
                      rotate_left
                      ·intro w'
                       go_simp
                       with_reducible rfl
                      rotate_left
                      ·simp only [Act.put,sA_,s0_,s1_,i64_w,i32_w]
                       rfl
                      refine take_ (i:=4) (N:=some 89) (v:=?_) (a':=?_) #[true,true,true,true,true,true,true,true,true,false,false,false,false,false,false,false,false,false,false] rfl rfl (take_ofW HT_.out HW_.out (by kernel_rfl)) (fun _ _ _ h => h) (Or.inl ⟨by rfl, ?_⟩) hHeld ?_ ?_
                      rotate_left
                      ·rintro w' ⟨s0,s1⟩
                       go_simp
                       with_reducible rfl
                      rotate_left
                      ·simp only [Act.put,sA_,s0_,s1_,i64_w,i32_w]
                       rfl
                      refine take_ (i:=9) (N:=some 94) (v:=?_) (a':=?_) #[true,true,true,true,true,true,true,true,true,true,false,false,false,false,false,false,false,false,false] rfl rfl (take_ofW HT_.out HW_.out (by kernel_rfl)) (fun _ _ _ h => h) (Or.inl ⟨by rfl, ?_⟩) hHeld ?_ ?_
                      rotate_left
                      ·rintro w' ⟨s0,s1⟩
                       go_simp
                       with_reducible rfl
                      rotate_left
                      ·simp only [Act.put,sA_,s0_,s1_,i64_w,i32_w]
                       rfl
                      refine pure_ (i:=10) (N:=some 95) (v:=?_) (a':=?_) #[true,true,true,true,true,true,true,true,true,true,true,false,false,false,false,false,false,false,false] rfl rfl (any_of HT_.out (by kernel_rfl)) (fun _ _ _ h => h) (Or.inl ⟨by rfl, ?_⟩) ?_ ?_
                      rotate_left
                      ·intro w'
                       go_simp
                       with_reducible rfl
                      rotate_left
                      ·simp only [Act.put,sA_,s0_,s1_,i64_w,i32_w]
                       rfl
                      refine pure_ (i:=11) (N:=some 96) (v:=?_) (a':=?_) #[true,true,true,true,true,true,true,true,true,true,true,true,false,false,false,false,false,false,false] rfl rfl (any_of HT_.out (by kernel_rfl)) (fun _ _ _ h => h) (Or.inl ⟨by rfl, ?_⟩) ?_ ?_
                      rotate_left
                      ·intro w'
                       go_simp
                       with_reducible rfl
                      rotate_left
                      ·simp only [Act.put,sA_,s0_,s1_,i64_w,i32_w]
                       rfl
                      refine pure_ (i:=12) (N:=some 97) (v:=?_) (a':=?_) #[true,true,true,true,true,true,true,true,true,true,true,true,true,false,false,false,false,false,false] rfl rfl (any_of HT_.out (by kernel_rfl)) (fun _ _ _ h => h) (Or.inl ⟨by rfl, ?_⟩) ?_ ?_
                      rotate_left
                      ·intro w'
                       go_simp
                       with_reducible rfl
                      rotate_left
                      ·simp only [Act.put,sA_,s0_,s1_,i64_w,i32_w]
                       rfl
                      refine one_ (i:=13) (N:=some 98) #[true,true,true,true,true,true,true,true,true,true,true,true,true,true,false,false,false,false,false] rfl rfl (one_of HT_.out (by kernel_rfl)) (by decide) (fun K hK => ?_)
                      refine goes_ Tryd.func10 (by kernel_rfl) rfl #[.string ((rdOf ByteArray.empty t132 (ji31)).extract 0 ((ji40) : Int).toNat)] (by rfl) rfl rfl (by (try simp only [List.map_toArray,List.map_cons,List.map_nil]);rfl) ?_
                      with_reducible refine (spec_l1Read.calls k3 ((rdOf ByteArray.empty t132 (ji31)).extract 0 ((ji40) : Int).toNat) t150 t151 _ A43.out).mono ?_
                      rintro e w62 ⟨rfl,hb⟩
                      have HS0_:=(hb.cell (World.block_lt_of_cell? _ _ (hHeld.1))).trans (hHeld.1)
                      have HS1_:=(hb.cell (World.block_lt_of_cell? _ _ (hHeld.2))).trans (hHeld.2)
                      refine ⟨_,rfl, ?_⟩
                      have n0_:=Aside0.mk (Kd.R_below (by exact HO_4.out) hb)
                      have n1_:=Aside0.mk (Kd.R_below (by exact HO_136001.out) hb)
                      have n2_:=Aside0.mk (blk_below (g:=gb131) (o := .cells #[.int .i64 x132000_3, .slice none 0 0, .int .i64 x132002_3] 24 (0,0)) (by exact BK131.out) hb)
                      have n3_:=Aside0.mk (blk_below (g:=gb135) (o := .cells #[.int .i64 t137,u136001, .int .i64 t140] 24 (0,0)) (by exact BK135.out) hb)
                      have n4_:=Aside0.mk (below_step (by exact HB.out) hb)
                      clear HO_4
                      clear HO_136001
                      clear BK131
                      clear BK135
                      clear HB
                      have HO_4:=n0_
                      have HO_136001:=n1_
                      have BK131:=n2_
                      have BK135:=n3_
                      have HB:=n4_
                      clear n0_ n1_ n2_ n3_ n4_
                      (try clear hb)
                      (skip)
                      (skip)
                      (skip)
                      refine hK.out _ _ ⟨HS0_,HS1_⟩ (fun hHeld => ?_)
                      clear hK K
                      refine norm_ (a':=?_) ?_ ?_
                      rotate_left
                      ·show Act.put _ (some 98) _ = _
                       simp only [Act.put,sA_,s0_,s1_,i64_w,i32_w]
                       rfl
                      refine pure_ (i:=14) (N:=some 84) (v:=?_) (a':=?_) #[true,true,true,true,true,true,true,true,true,true,true,true,true,true,true,false,false,false,false] rfl rfl (any_of HT_.out (by kernel_rfl)) (fun _ _ _ h => h) (Or.inl ⟨by rfl, ?_⟩) ?_ ?_
                      rotate_left
                      ·intro w'
                       go_simp
                       with_reducible rfl
                      rotate_left
                      ·simp only [Act.put,sA_,s0_,s1_,i64_w,i32_w]
                       rfl
                      refine pure_ (i:=15) (N:=some 99) (v:=?_) (a':=?_) #[true,true,true,true,true,true,true,true,true,true,true,true,true,true,true,true,false,false,false] rfl rfl (any_of HT_.out (by kernel_rfl)) (fun _ _ _ h => h) (Or.inl ⟨by rfl, ?_⟩) ?_ ?_
                      rotate_left
                      ·intro w'
                       go_simp
                       with_reducible rfl
                      rotate_left
                      ·simp only [Act.put,sA_,s0_,s1_,i64_w,i32_w]
                       rfl
                      refine pure_ (i:=16) (N:=some 100) (v:=?_) (a':=?_) #[true,true,true,true,true,true,true,true,true,true,true,true,true,true,true,true,true,false,false] rfl rfl (any_of HT_.out (by kernel_rfl)) (fun _ _ _ h => h) (Or.inl ⟨by rfl, ?_⟩) ?_ ?_
                      rotate_left
                      ·intro w'
                       go_simp
                       with_reducible rfl
                      rotate_left
                      ·simp only [Act.put,sA_,s0_,s1_,i64_w,i32_w]
                       rfl
                      refine pure_ (i:=17) (N:=some 14) (v:=?_) (a':=?_) #[true,true,true,true,true,true,true,true,true,true,true,true,true,true,true,true,true,true,false] rfl rfl (any_of HT_.out (by kernel_rfl)) (fun _ _ _ h => h) (Or.inl ⟨by rfl, ?_⟩) ?_ ?_
                      rotate_left
                      ·intro w'
                       go_simp
                       with_reducible rfl
                      rotate_left
                      ·simp only [Act.put,sA_,s0_,s1_,i64_w,i32_w]
                       rfl
                      refine pure_ (i:=18) (N:=some 15) (v:=?_) (a':=?_) #[true,true,true,true,true,true,true,true,true,true,true,true,true,true,true,true,true,true,true] rfl rfl (any_of HT_.out (by kernel_rfl)) (fun _ _ _ h => h) (Or.inl ⟨by rfl, ?_⟩) ?_ ?_
                      rotate_left
                      ·intro w'
                       go_simp
                       with_reducible rfl
                      rotate_left
                      ·simp only [Act.put,sA_,s0_,s1_,i64_w,i32_w]
                       rfl
                      refine done_ (done_of HT_.out (by kernel_rfl)) ?_
                      have hnb63:=NB131_135.out
                      have hnc63:=NB135_131.out
                      have hcz64_0 : w62.cell? ⟨gb131,0,none⟩ = some (.int .i64 x132000_3):=(blk_cell BK131.out 0).trans rfl
                      have hcz64_1 : w62.cell? ⟨gb131,1,none⟩ = some (.slice none 0 0):=(blk_cell BK131.out 1).trans rfl
                      have hcz64_2 : w62.cell? ⟨gb131,2,none⟩ = some (.int .i64 x132002_3):=(blk_cell BK131.out 2).trans rfl
                      have hfz64_0:=blk_frozen BK131.out 0
                      have hfz64_1:=blk_frozen BK131.out 1
                      have hfz64_2:=blk_frozen BK131.out 2
                      try go_wp2
                      refine bodyPost_ret (results_ct rfl _ _ gb131 24 #[.int .i64 0, .slice none 0 0, .int .i64 0] (0,0) _ rfl (by refine blk_put (cs:=#[.int .i64 0, .slice none 0 0, .int .i64 x132002_3]) ?_ 2 _ rfl;refine blk_put (cs:=#[.int .i64 0, .slice none 0 0, .int .i64 x132002_3]) ?_ 1 _ rfl;refine blk_put (cs:=#[.int .i64 x132000_3, .slice none 0 0, .int .i64 x132002_3]) ?_ 0 _ rfl;exact BK131.out) Tryd.underlying24 rfl (by kernel_rfl)) rfl ?_
                      exact ⟨_,by rfl,by exact Kd.R_nil _ _ _ _ _,by repeat ((with_reducible first | exact HB.out | refine below_set ?_ GE131.out))⟩
                    ·rw [if_neg c42] at H
                     exact absurd H (by simp)
                   ·rw [if_neg c41] at H
                    exact absurd H (by simp)
                  ·rw [if_neg c38] at H
                   exact absurd H (by simp)
                 ·rw [if_neg c37] at H
                  exact absurd H (by simp)
               ·rw [if_neg c33] at H
                exact absurd H (by simp)
              ·rw [if_neg c32] at H
               exact absurd H (by simp)
             ·rw [if_neg c30] at H
              have c30b0 : decide ((wrap64 (x11_3 + 2)) < (t132.length : Int)) = false:=decide_eq_false c30
              clear c30
              replace H:=Option.bind_eq_some_iff.mp H
              obtain ⟨⟨t142,t143⟩,A650,H⟩ := H
              replace H : (if t143 = true then (if t142.toList = a0.toList then (some (t137,x136001_3,t140,true)) else (some (0,([] : List (S35)),0,false))) else (some (0,([] : List (S35)),0,false))) = some (r1,r2,r3,r4):=H
              have A65:=Aside0.mk A650
              clear A650
              by_cases c66 : t143 = true
              ·subst c66
               have H1 : (if t142.toList = a0.toList then (some (t137,x136001_3,t140,true)) else (some (0,([] : List (S35)),0,false))) = some (r1,r2,r3,r4):=by rw [if_pos rfl] at H;exact H
               clear H
               have H:=H1
               clear H1
               by_cases c67 : t142.toList = a0.toList
               ·rw [if_pos c67] at H
                have c67b0 : (t142.toList == a0.toList) = true:=beq_iff_eq.mpr c67
                have c67b1 : (t142.toList != a0.toList) = false:=bne_eq_false_iff_eq.mpr c67
                clear c67
                simp only [Option.some.injEq,Prod.mk.injEq] at H
                obtain ⟨rfl,rfl,rfl,rfl⟩ := H
                have hnb68:=NB135_131.out
                have hnc68:=NB131_135.out
                have hcz69_0 : wr.cell? ⟨gb135,0,none⟩ = some (.int .i64 t137):=(blk_cell BK135.out 0).trans rfl
                have hcz69_1 : wr.cell? ⟨gb135,1,none⟩ = some (u136001):=(blk_cell BK135.out 1).trans rfl
                have hcz69_2 : wr.cell? ⟨gb135,2,none⟩ = some (.int .i64 t140):=(blk_cell BK135.out 2).trans rfl
                have hfz69_0:=blk_frozen BK135.out 0
                have hfz69_1:=blk_frozen BK135.out 1
                have hfz69_2:=blk_frozen BK135.out 2
                obtain ⟨Ao70,co70,eo70⟩ := Kd.R_slice HO_136001.out
                subst eo70
                go_wp2_with (((with_reducible refine gate_callee (f:=11) rfl ?_);refine goesL_ (some 118) rfl rfl Tryd.func11 (by kernel_rfl) rfl #[.agg #[.int .i64 t137, .slice Ao70 x136001_3.length co70, .int .i64 t140]] rfl (by (try simp only [List.map_toArray,List.map_cons,List.map_nil]);rfl) ?_;(with_reducible refine (spec_ChargeText.calls k3 t137 _ _ x136001_3 t140 t142 true _ ?side1 ?side2 A65.out).mono ?_);(case side1 => repeat (exact (Kd.R_reads' HO_136001.out).2.2));(case side2 => exact (Kd.R_reads' HO_136001.out).2.1);rintro e w71 ⟨rfl,hb⟩;refine ⟨_,rfl, ?_⟩;have n0_:=Aside0.mk (Kd.R_below (by exact HO_4.out) hb);have n1_:=Aside0.mk (Kd.R_below (by exact HO_136001.out) hb);have n2_:=Aside0.mk (blk_below (g:=gb131) (o := .cells #[.int .i64 x132000_3, .slice none 0 0, .int .i64 x132002_3] 24 (0,0)) (by exact BK131.out) hb);have n3_:=Aside0.mk (blk_below (g:=gb135) (o := .cells #[.int .i64 t137, .slice Ao70 x136001_3.length co70, .int .i64 t140] 24 (0,0)) (by exact BK135.out) hb);have n4_:=Aside0.mk (below_step (by exact HB.out) hb);clear HO_4;clear HO_136001;clear BK131;clear BK135;clear HB;have HO_4:=n0_;have HO_136001:=n1_;have BK131:=n2_;have BK135:=n3_;have HB:=n4_;clear n0_ n1_ n2_ n3_ n4_;(try clear hb);have hcz72_0 : w71.cell? ⟨gb135,0,none⟩ = some (.int .i64 t137):=(blk_cell BK135.out 0).trans rfl;have hcz72_1 : w71.cell? ⟨gb135,1,none⟩ = some (.slice Ao70 x136001_3.length co70):=(blk_cell BK135.out 1).trans rfl;have hcz72_2 : w71.cell? ⟨gb135,2,none⟩ = some (.int .i64 t140):=(blk_cell BK135.out 2).trans rfl;have hfz72_0:=blk_frozen BK135.out 0;have hfz72_1:=blk_frozen BK135.out 1;have hfz72_2:=blk_frozen BK135.out 2;have hcz73_0 : w71.cell? ⟨gb131,0,none⟩ = some (.int .i64 x132000_3):=(blk_cell BK131.out 0).trans rfl;have hcz73_1 : w71.cell? ⟨gb131,1,none⟩ = some (.slice none 0 0):=(blk_cell BK131.out 1).trans rfl;have hcz73_2 : w71.cell? ⟨gb131,2,none⟩ = some (.int .i64 x132002_3):=(blk_cell BK131.out 2).trans rfl;have hfz73_0:=blk_frozen BK131.out 0;have hfz73_1:=blk_frozen BK131.out 1;have hfz73_2:=blk_frozen BK131.out 2))
                refine bodyPost_ret (results_ct rfl _ _ gb131 24 #[.int .i64 t137, .slice Ao70 x136001_3.length co70, .int .i64 t140] (0,0) _ rfl (by refine blk_put (cs:=#[.int .i64 t137, .slice Ao70 x136001_3.length co70, .int .i64 x132002_3]) ?_ 2 _ rfl;refine blk_put (cs:=#[.int .i64 t137, .slice none 0 0, .int .i64 x132002_3]) ?_ 1 _ rfl;refine blk_put (cs:=#[.int .i64 x132000_3, .slice none 0 0, .int .i64 x132002_3]) ?_ 0 _ rfl;exact BK131.out) Tryd.underlying24 rfl (by kernel_rfl)) rfl ?_
                exact ⟨_,by rfl,by exact Kd.R_mono (Kd.R_far (p:=⟨gb131,2,none⟩) (Kd.R_far (p:=⟨gb131,1,none⟩) (Kd.R_far (p:=⟨gb131,0,none⟩) (Kd.R_types HO_136001.out BK131.out (by decide)) (fun _ hk => hk.2) (.int .i64 t137)) (fun _ hk => hk.2) (.slice Ao70 x136001_3.length co70)) (fun _ hk => hk.2) (.int .i64 t140)) (fun _ hk => trivial),by repeat ((with_reducible first | exact HB.out | refine below_set ?_ GE131.out))⟩
               ·rw [if_neg c67] at H
                have c67b0 : (t142.toList == a0.toList) = false:=beq_eq_false_iff_ne.mpr c67
                have c67b1 : (t142.toList != a0.toList) = true:=bne_iff_ne.mpr c67
                simp only [Option.some.injEq,Prod.mk.injEq] at H
                obtain ⟨rfl,rfl,rfl,rfl⟩ := H
                have hnb74:=NB135_131.out
                have hnc74:=NB131_135.out
                have hcz75_0 : wr.cell? ⟨gb135,0,none⟩ = some (.int .i64 t137):=(blk_cell BK135.out 0).trans rfl
                have hcz75_1 : wr.cell? ⟨gb135,1,none⟩ = some (u136001):=(blk_cell BK135.out 1).trans rfl
                have hcz75_2 : wr.cell? ⟨gb135,2,none⟩ = some (.int .i64 t140):=(blk_cell BK135.out 2).trans rfl
                have hfz75_0:=blk_frozen BK135.out 0
                have hfz75_1:=blk_frozen BK135.out 1
                have hfz75_2:=blk_frozen BK135.out 2
                obtain ⟨Ao76,co76,eo76⟩ := Kd.R_slice HO_136001.out
                subst eo76
                go_wp2_with (((with_reducible refine gate_callee (f:=11) rfl ?_);refine goesL_ (some 118) rfl rfl Tryd.func11 (by kernel_rfl) rfl #[.agg #[.int .i64 t137, .slice Ao76 x136001_3.length co76, .int .i64 t140]] rfl (by (try simp only [List.map_toArray,List.map_cons,List.map_nil]);rfl) ?_;(with_reducible refine (spec_ChargeText.calls k3 t137 _ _ x136001_3 t140 t142 true _ ?side1 ?side2 A65.out).mono ?_);(case side1 => repeat (exact (Kd.R_reads' HO_136001.out).2.2));(case side2 => exact (Kd.R_reads' HO_136001.out).2.1);rintro e w77 ⟨rfl,hb⟩;refine ⟨_,rfl, ?_⟩;have n0_:=Aside0.mk (Kd.R_below (by exact HO_4.out) hb);have n1_:=Aside0.mk (Kd.R_below (by exact HO_136001.out) hb);have n2_:=Aside0.mk (blk_below (g:=gb131) (o := .cells #[.int .i64 x132000_3, .slice none 0 0, .int .i64 x132002_3] 24 (0,0)) (by exact BK131.out) hb);have n3_:=Aside0.mk (blk_below (g:=gb135) (o := .cells #[.int .i64 t137, .slice Ao76 x136001_3.length co76, .int .i64 t140] 24 (0,0)) (by exact BK135.out) hb);have n4_:=Aside0.mk (below_step (by exact HB.out) hb);clear HO_4;clear HO_136001;clear BK131;clear BK135;clear HB;have HO_4:=n0_;have HO_136001:=n1_;have BK131:=n2_;have BK135:=n3_;have HB:=n4_;clear n0_ n1_ n2_ n3_ n4_;(try clear hb);have hcz78_0 : w77.cell? ⟨gb131,0,none⟩ = some (.int .i64 x132000_3):=(blk_cell BK131.out 0).trans rfl;have hcz78_1 : w77.cell? ⟨gb131,1,none⟩ = some (.slice none 0 0):=(blk_cell BK131.out 1).trans rfl;have hcz78_2 : w77.cell? ⟨gb131,2,none⟩ = some (.int .i64 x132002_3):=(blk_cell BK131.out 2).trans rfl;have hfz78_0:=blk_frozen BK131.out 0;have hfz78_1:=blk_frozen BK131.out 1;have hfz78_2:=blk_frozen BK131.out 2))
                refine bodyPost_ret (results_ct rfl _ _ gb131 24 #[.int .i64 0, .slice none 0 0, .int .i64 0] (0,0) _ rfl (by refine blk_put (cs:=#[.int .i64 0, .slice none 0 0, .int .i64 x132002_3]) ?_ 2 _ rfl;refine blk_put (cs:=#[.int .i64 0, .slice none 0 0, .int .i64 x132002_3]) ?_ 1 _ rfl;refine blk_put (cs:=#[.int .i64 x132000_3, .slice none 0 0, .int .i64 x132002_3]) ?_ 0 _ rfl;exact BK131.out) Tryd.underlying24 rfl (by kernel_rfl)) rfl ?_
                exact ⟨_,by rfl,by exact Kd.R_nil _ _ _ _ _,by repeat ((with_reducible first | exact HB.out | refine below_set ?_ GE131.out))⟩
              ·replace c66:=Bool.eq_false_iff.mpr c66
               subst c66
               have H1 : (some (0,([] : List (S35)),0,false)) = some (r1,r2,r3,r4):=by rw [if_neg (show ¬ (false = true) by decide)] at H;exact H
               clear H
               have H:=H1
               clear H1
               simp only [Option.some.injEq,Prod.mk.injEq] at H
               obtain ⟨rfl,rfl,rfl,rfl⟩ := H
               have hnb79:=NB135_131.out
               have hnc79:=NB131_135.out
               have hcz80_0 : wr.cell? ⟨gb135,0,none⟩ = some (.int .i64 t137):=(blk_cell BK135.out 0).trans rfl
               have hcz80_1 : wr.cell? ⟨gb135,1,none⟩ = some (u136001):=(blk_cell BK135.out 1).trans rfl
               have hcz80_2 : wr.cell? ⟨gb135,2,none⟩ = some (.int .i64 t140):=(blk_cell BK135.out 2).trans rfl
               have hfz80_0:=blk_frozen BK135.out 0
               have hfz80_1:=blk_frozen BK135.out 1
               have hfz80_2:=blk_frozen BK135.out 2
               obtain ⟨Ao81,co81,eo81⟩ := Kd.R_slice HO_136001.out
               subst eo81
               go_wp2_with (((with_reducible refine gate_callee (f:=11) rfl ?_);refine goesL_ (some 118) rfl rfl Tryd.func11 (by kernel_rfl) rfl #[.agg #[.int .i64 t137, .slice Ao81 x136001_3.length co81, .int .i64 t140]] rfl (by (try simp only [List.map_toArray,List.map_cons,List.map_nil]);rfl) ?_;(with_reducible refine (spec_ChargeText.calls k3 t137 _ _ x136001_3 t140 t142 false _ ?side1 ?side2 A65.out).mono ?_);(case side1 => repeat (exact (Kd.R_reads' HO_136001.out).2.2));(case side2 => exact (Kd.R_reads' HO_136001.out).2.1);rintro e w82 ⟨rfl,hb⟩;refine ⟨_,rfl, ?_⟩;have n0_:=Aside0.mk (Kd.R_below (by exact HO_4.out) hb);have n1_:=Aside0.mk (Kd.R_below (by exact HO_136001.out) hb);have n2_:=Aside0.mk (blk_below (g:=gb131) (o := .cells #[.int .i64 x132000_3, .slice none 0 0, .int .i64 x132002_3] 24 (0,0)) (by exact BK131.out) hb);have n3_:=Aside0.mk (blk_below (g:=gb135) (o := .cells #[.int .i64 t137, .slice Ao81 x136001_3.length co81, .int .i64 t140] 24 (0,0)) (by exact BK135.out) hb);have n4_:=Aside0.mk (below_step (by exact HB.out) hb);clear HO_4;clear HO_136001;clear BK131;clear BK135;clear HB;have HO_4:=n0_;have HO_136001:=n1_;have BK131:=n2_;have BK135:=n3_;have HB:=n4_;clear n0_ n1_ n2_ n3_ n4_;(try clear hb);have hcz83_0 : w82.cell? ⟨gb131,0,none⟩ = some (.int .i64 x132000_3):=(blk_cell BK131.out 0).trans rfl;have hcz83_1 : w82.cell? ⟨gb131,1,none⟩ = some (.slice none 0 0):=(blk_cell BK131.out 1).trans rfl;have hcz83_2 : w82.cell? ⟨gb131,2,none⟩ = some (.int .i64 x132002_3):=(blk_cell BK131.out 2).trans rfl;have hfz83_0:=blk_frozen BK131.out 0;have hfz83_1:=blk_frozen BK131.out 1;have hfz83_2:=blk_frozen BK131.out 2))
               refine bodyPost_ret (results_ct rfl _ _ gb131 24 #[.int .i64 0, .slice none 0 0, .int .i64 0] (0,0) _ rfl (by refine blk_put (cs:=#[.int .i64 0, .slice none 0 0, .int .i64 x132002_3]) ?_ 2 _ rfl;refine blk_put (cs:=#[.int .i64 0, .slice none 0 0, .int .i64 x132002_3]) ?_ 1 _ rfl;refine blk_put (cs:=#[.int .i64 x132000_3, .slice none 0 0, .int .i64 x132002_3]) ?_ 0 _ rfl;exact BK131.out) Tryd.underlying24 rfl (by kernel_rfl)) rfl ?_
               exact ⟨_,by rfl,by exact Kd.R_nil _ _ _ _ _,by repeat ((with_reducible first | exact HB.out | refine below_set ?_ GE131.out))⟩
       ·rw [if_neg c17] at H
        exact absurd H (by simp)
      ·rw [if_neg c16] at H
       exact absurd H (by simp)
     ·rw [if_neg c13] at H
      exact absurd H (by simp)

end Go.Proofs.YthogpinmmddicaaDoor.PFnExactParseCharge
