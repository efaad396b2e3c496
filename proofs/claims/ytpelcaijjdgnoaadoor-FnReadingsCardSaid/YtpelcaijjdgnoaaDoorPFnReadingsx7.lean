-- Written by a program of this session, over the kit's print (wip/xprint.py)
import Derived.Test.YtpelcaijjdgnoaaDoorPFnReadingsx0
import Derived.Test.YtpelcaijjdgnoaaDoorPFnReadingsx2
import Derived.Test.YtpelcaijjdgnoaaDoorPFnReadingsx4
import Derived.Test.YtpelcaijjdgnoaaDoorPFnReadingsx6
namespace Go.Proofs.YtpelcaijjdgnoaaDoor.PFnReadings
open Go.RowKit Go.Proofs.YtpelcaijjdgnoaaDoorW.PrintWords Go.Proofs.YtpelcaijjdgnoaaDoorW.PrintLast Go.Proofs.YtpelcaijjdgnoaaDoorW.PrintMore
attribute [local go_sem] max2_int min2_int max_two min_two max_three min_three max_four min_four   -- for this text's walks alone
set_option linter.unusedVariables false
set_option linter.unusedSimpArgs false

/-! ### spec_l21Asked: function 34 -/
def spec_l21Asked.f (k : Nat) (l0 : List (S41)) (a1 : Int) (a2 : Int) : Option (Bool):=(spec_l21Good.f k l0).bind fun t263 => (if t263 = true then ((spec_l1In.f a1 (-300) 300).bind fun t264 => (if t264 = true then ((spec_l1In.f a2 0 100).bind fun t265 => (some t265)) else (some false))) else (some false))
theorem spec_l21Asked.mono : ∀ a0 a1 a2 k,LeO (spec_l21Asked.f k a0 a1 a2) (spec_l21Asked.f (k + 1) a0 a1 a2):=by
 intro a0 a1 a2 k
 unfold spec_l21Asked.f
 repeat' first
   | (with_reducible exact spec_l21Good.mono _ _)
   | (with_reducible exact LeO.refl _)
   | (with_reducible exact LeO.none _)
   | (with_reducible refine LeO.ite ?_ ?_)
   | (with_reducible refine LeO.bind ?_ (fun _ => ?_))
   | exact spec_l21Good.mono _ _
   | exact LeO.none _
   | refine LeO.ite ?_ ?_
   | refine LeO.bind ?_ (fun _ => ?_)
set_option maxHeartbeats 8000000 in
set_option maxRecDepth 100000 in
theorem spec_l21Asked.calls (k : Nat) (A0 : Option Addr) (c0 : Nat) (l0 : List (S41)) (a1 : Int) (a2 : Int) (r : Bool) (w : World) (hr0 : Kd.C k41 w A0 l0.length l0) (hc0 : l0.length ≤ c0) (h : spec_l21Asked.f k l0 a1 a2 = some r) :
  Calls Tryd.prog 34 #[.slice A0 l0.length c0, .int .i64 a1, .int .i64 a2] w fun e w' => e = .returned (.bool r) ∧ Below w.heap.size w w':=by
 have HR0:=Aside0.mk hr0
 have HC0:=Aside0.mk hc0
 clear hr0 hc0
 have HB:=Aside0.mk (Below.refl w.heap.size w)
 have H : ((spec_l21Good.f k l0).bind fun t263 => (if t263 = true then ((spec_l1In.f a1 (-300) 300).bind fun t264 => (if t264 = true then ((spec_l1In.f a2 0 100).bind fun t265 => (some t265)) else (some false))) else (some false))) = some r:=h
 clear h
 replace H:=Option.bind_eq_some_iff.mp H
 obtain ⟨t263,A40,H⟩ := H
 replace H : (if t263 = true then ((spec_l1In.f a1 (-300) 300).bind fun t264 => (if t264 = true then ((spec_l1In.f a2 0 100).bind fun t265 => (some t265)) else (some false))) else (some false)) = some r:=H
 have A4:=Aside0.mk A40
 clear A40
 by_cases c5 : t263 = true
 ·subst c5
  have H1 : ((spec_l1In.f a1 (-300) 300).bind fun t264 => (if t264 = true then ((spec_l1In.f a2 0 100).bind fun t265 => (some t265)) else (some false))) = some r:=by rw [if_pos rfl] at H;exact H
  clear H
  have H:=H1
  clear H1
  replace H:=Option.bind_eq_some_iff.mp H
  obtain ⟨t264,A60,H⟩ := H
  replace H : (if t264 = true then ((spec_l1In.f a2 0 100).bind fun t265 => (some t265)) else (some false)) = some r:=H
  have A6:=Aside0.mk A60
  clear A60
  by_cases c7 : t264 = true
  ·subst c7
   have H1 : ((spec_l1In.f a2 0 100).bind fun t265 => (some t265)) = some r:=by rw [if_pos rfl] at H;exact H
   clear H
   have H:=H1
   clear H1
   replace H:=Option.bind_eq_some_iff.mp H
   obtain ⟨t265,A80,H⟩ := H
   replace H : (some t265) = some r:=H
   have A8:=Aside0.mk A80
   clear A80
   obtain rfl:=Option.some.inj H
   go_enter Tryd.func34,Tryd.ntmps34
   go_wp2_with (first | ((with_reducible refine gate_callee (f:=39) rfl ?_);refine goesL_ (some 8) rfl rfl Tryd.func39 (by kernel_rfl) rfl #[.slice A0 l0.length c0] rfl (by (try simp only [List.map_toArray,List.map_cons,List.map_nil]);rfl) ?_;(with_reducible refine (spec_l21Good.calls k _ _ l0 true _ ?side1 ?side2 A4.out).mono ?_);(case side1 => repeat (exact HR0.out));(case side2 => exact HC0.out);rintro e w9 ⟨rfl,hb⟩;refine ⟨_,rfl, ?_⟩;have n0_:=Aside0.mk (below_step (by exact HB.out) hb);clear HB;have HB:=n0_;clear n0_;(try clear hb)) | (go_at_call 26;(with_reducible refine (spec_l1In.calls a1 (-300) 300 true _ A6.out).mono ?_);rintro e w' ⟨rfl,⟨nd,rfl⟩⟩) | (go_at_call 26;(with_reducible refine (spec_l1In.calls a2 0 100 t265 _ A8.out).mono ?_);rintro e w' ⟨rfl,⟨nd,rfl⟩⟩))
   go_ret
   exact ⟨by rfl,by repeat ((with_reducible first | exact HB.out | apply pw_below_drewN))⟩
  ·replace c7:=Bool.eq_false_iff.mpr c7
   subst c7
   have H1 : (some false) = some r:=by rw [if_neg (show ¬ (false = true) by decide)] at H;exact H
   clear H
   have H:=H1
   clear H1
   obtain rfl:=Option.some.inj H
   go_enter Tryd.func34,Tryd.ntmps34
   go_wp2_with (first | ((with_reducible refine gate_callee (f:=39) rfl ?_);refine goesL_ (some 8) rfl rfl Tryd.func39 (by kernel_rfl) rfl #[.slice A0 l0.length c0] rfl (by (try simp only [List.map_toArray,List.map_cons,List.map_nil]);rfl) ?_;(with_reducible refine (spec_l21Good.calls k _ _ l0 true _ ?side1 ?side2 A4.out).mono ?_);(case side1 => repeat (exact HR0.out));(case side2 => exact HC0.out);rintro e w10 ⟨rfl,hb⟩;refine ⟨_,rfl, ?_⟩;have n0_:=Aside0.mk (below_step (by exact HB.out) hb);clear HB;have HB:=n0_;clear n0_;(try clear hb)) | (go_at_call 26;(with_reducible refine (spec_l1In.calls a1 (-300) 300 false _ A6.out).mono ?_);rintro e w' ⟨rfl,⟨nd,rfl⟩⟩))
   go_ret
   exact ⟨by rfl,by repeat ((with_reducible first | exact HB.out | apply pw_below_drewN))⟩
 ·replace c5:=Bool.eq_false_iff.mpr c5
  subst c5
  have H1 : (some false) = some r:=by rw [if_neg (show ¬ (false = true) by decide)] at H;exact H
  clear H
  have H:=H1
  clear H1
  obtain rfl:=Option.some.inj H
  go_enter Tryd.func34,Tryd.ntmps34
  go_wp2_with (((with_reducible refine gate_callee (f:=39) rfl ?_);refine goesL_ (some 8) rfl rfl Tryd.func39 (by kernel_rfl) rfl #[.slice A0 l0.length c0] rfl (by (try simp only [List.map_toArray,List.map_cons,List.map_nil]);rfl) ?_;(with_reducible refine (spec_l21Good.calls k _ _ l0 false _ ?side1 ?side2 A4.out).mono ?_);(case side1 => repeat (exact HR0.out));(case side2 => exact HC0.out);rintro e w11 ⟨rfl,hb⟩;refine ⟨_,rfl, ?_⟩;have n0_:=Aside0.mk (below_step (by exact HB.out) hb);clear HB;have HB:=n0_;clear n0_;(try clear hb)))
  go_ret
  exact ⟨by rfl,by exact HB.out⟩

/-! ### spec_l21Fine: function 35 -/
def spec_l21Fine.f (a0_0 : Int) (a0_1 : Int) (a0_2 : Bool) (a1 : Int) (a2 : Int) : Option (Bool):=(spec_l1In.f a0_1 (wrap64 (a1 - a2)) (wrap64 (a1 + a2))).bind fun t267 => (some t267)
set_option maxHeartbeats 8000000 in
set_option maxRecDepth 100000 in
theorem spec_l21Fine.calls (a0_0 : Int) (a0_1 : Int) (a0_2 : Bool) (a1 : Int) (a2 : Int) (r : Bool) (w : World) (h : spec_l21Fine.f a0_0 a0_1 a0_2 a1 a2 = some r) :
  Calls Tryd.prog 35 #[.agg #[.int .i64 a0_0, .int .i64 a0_1, .bool a0_2], .int .i64 a1, .int .i64 a2] w fun e w' => e = .returned (.bool r) ∧ Below w.heap.size w w':=by
 have hu41:=Tryd.underlying41
 have HB:=Aside0.mk (Below.refl w.heap.size w)
 have H : ((spec_l1In.f a0_1 (wrap64 (a1 - a2)) (wrap64 (a1 + a2))).bind fun t267 => (some t267)) = some r:=h
 clear h
 replace H:=Option.bind_eq_some_iff.mp H
 obtain ⟨t267,A40,H⟩ := H
 replace H : (some t267) = some r:=H
 have A4:=Aside0.mk A40
 clear A40
 obtain rfl:=Option.some.inj H
 go_enter Tryd.func35,Tryd.ntmps35
 go_wp2_with (first | ((with_reducible refine gate_dst (N:=3) rfl ?_);refine box_event ?hg (N:=3) ?hd (cs:=#[.int .i64 a0_0, .int .i64 a0_1, .bool a0_2]) (t:=41) ?hr ?_;(case hd => rfl);(case hg => rfl);(case hr => (go_simp;done));intro gb266 hg w5 hbox hb;have n0_:=Aside0.mk (below_step (by exact HB.out) hb);have n1_:=Aside0.mk (hbox);have n2_:=Aside0.mk ((by rw [hg];exact (below_size (by exact HB.out)) : w.heap.size ≤ gb266));have n3_:=Aside0.mk ((by rw [hg];exact (below_size (by exact HB.out)) : w.heap.size ≤ gb266));clear HB;have HB:=n0_;have BK266:=n1_;have GW266:=n2_;have GE266:=n3_;clear n0_ n1_ n2_ n3_;clear hb hbox hg;have hcz6_0 : w5.cell? ⟨gb266,0,none⟩ = some (.int .i64 a0_0):=(blk_cell BK266.out 0).trans rfl;have hcz6_1 : w5.cell? ⟨gb266,1,none⟩ = some (.int .i64 a0_1):=(blk_cell BK266.out 1).trans rfl;have hcz6_2 : w5.cell? ⟨gb266,2,none⟩ = some (.bool a0_2):=(blk_cell BK266.out 2).trans rfl;have hfz6_0:=blk_frozen BK266.out 0;have hfz6_1:=blk_frozen BK266.out 1;have hfz6_2:=blk_frozen BK266.out 2) | ((with_reducible refine gate_callee (f:=26) rfl ?_);refine goesL_ (some 15) rfl rfl Tryd.func26 (by kernel_rfl) rfl #[.int .i64 a0_1, .int .i64 (wrap64 (a1 - a2)), .int .i64 (wrap64 (a1 + a2))] rfl (by (try simp only [List.map_toArray,List.map_cons,List.map_nil]);rfl) ?_;(with_reducible refine (spec_l1In.calls a0_1 (wrap64 (a1 - a2)) (wrap64 (a1 + a2)) t267 _ A4.out).mono ?_);rintro e w' ⟨rfl,⟨nd,rfl⟩⟩;refine ⟨_,rfl, ?_⟩))
 go_ret
 exact ⟨by rfl,by repeat ((with_reducible first | exact HB.out | apply pw_below_drewN))⟩

/-! ### spec_LongestAlarm: function 13 -/
mutual
def spec_LongestAlarm.l0 : Nat → List (S41) → Int → Int → Int → Int → Bool → Int → Option (Int × Int × Bool)
 | 0,_,_,_,_,_,_,_ => none
 | k + 1,x0,x1,x2,x9,x10,x11,x12 => if x12 < (x0.length : Int) then (spec_LongestAlarm.l1 k x0 x1 x2 x9 x10 x11 x12 x12) else (some (x9,x10,x11))
def spec_LongestAlarm.j2 : Nat → List (S41) → Int → Int → Int → Int → Bool → Int → Int → Option (Int × Int × Bool)
 | 0,_,_,_,_,_,_,_,_ => none
 | k + 1,x0,x1,x2,x9,x10,x11,x12,x13 => if x13 = x12 then (spec_LongestAlarm.l0 k x0 x1 x2 x9 x10 x11 (wrap64 (x12 + 1))) else (if 0 ≤ x12 then (if x12 < (x0.length : Int) then (if 0 ≤ (wrap64 (x13 - 1)) then (if (wrap64 (x13 - 1)) < (x0.length : Int) then (if x11 = true then (if (wrap64 (((rd_T41 x0 (wrap64 (x13 - 1))).f0) - ((rd_T41 x0 x12).f0))) > (wrap64 (x10 - x9)) then (spec_LongestAlarm.l0 k x0 x1 x2 ((rd_T41 x0 x12).f0) ((rd_T41 x0 (wrap64 (x13 - 1))).f0) true (wrap64 (x13 + 1))) else (spec_LongestAlarm.l0 k x0 x1 x2 x9 x10 x11 (wrap64 (x13 + 1)))) else (spec_LongestAlarm.l0 k x0 x1 x2 ((rd_T41 x0 x12).f0) ((rd_T41 x0 (wrap64 (x13 - 1))).f0) true (wrap64 (x13 + 1)))) else (none)) else (none)) else (none)) else (none))
def spec_LongestAlarm.l1 : Nat → List (S41) → Int → Int → Int → Int → Bool → Int → Int → Option (Int × Int × Bool)
 | 0,_,_,_,_,_,_,_,_ => none
 | k + 1,x0,x1,x2,x9,x10,x11,x12,x13 => if x13 < (x0.length : Int) then (if 0 ≤ x13 then ((spec_l21Fine.f ((rd_T41 x0 x13).f0) ((rd_T41 x0 x13).f1) ((rd_T41 x0 x13).f2) x1 x2).bind fun t270 => (if t270 = true then (spec_LongestAlarm.j2 k x0 x1 x2 x9 x10 x11 x12 x13) else (spec_LongestAlarm.l1 k x0 x1 x2 x9 x10 x11 x12 (wrap64 (x13 + 1))))) else (none)) else (spec_LongestAlarm.j2 k x0 x1 x2 x9 x10 x11 x12 x13)
end
def spec_LongestAlarm.f (k : Nat) (l0 : List (S41)) (a1 : Int) (a2 : Int) : Option (Int × Int × Bool):=(spec_l21Asked.f k l0 a1 a2).bind fun t268 => (if t268 = true then (spec_LongestAlarm.l0 k l0 a1 a2 0 0 false 0) else (some (0,0,false)))
theorem spec_LongestAlarm.mono_l : ∀ k,(∀ y0 y1 y2 y3 y4 y5 y6,LeO (spec_LongestAlarm.l0 k y0 y1 y2 y3 y4 y5 y6) (spec_LongestAlarm.l0 (k + 1) y0 y1 y2 y3 y4 y5 y6)) ∧ (∀ y0 y1 y2 y3 y4 y5 y6 y7,LeO (spec_LongestAlarm.j2 k y0 y1 y2 y3 y4 y5 y6 y7) (spec_LongestAlarm.j2 (k + 1) y0 y1 y2 y3 y4 y5 y6 y7)) ∧ (∀ y0 y1 y2 y3 y4 y5 y6 y7,LeO (spec_LongestAlarm.l1 k y0 y1 y2 y3 y4 y5 y6 y7) (spec_LongestAlarm.l1 (k + 1) y0 y1 y2 y3 y4 y5 y6 y7))
 | 0 => ⟨fun _ _ _ _ _ _ _ r h => by simp [spec_LongestAlarm.l0] at h,fun _ _ _ _ _ _ _ _ r h => by simp [spec_LongestAlarm.j2] at h,fun _ _ _ _ _ _ _ _ r h => by simp [spec_LongestAlarm.l1] at h⟩
 | k + 1 => by
  obtain ⟨ih0,ih1,ih2⟩ := spec_LongestAlarm.mono_l k
  refine ⟨?_, ?_, ?_⟩
  ·intro y0 y1 y2 y3 y4 y5 y6
   unfold spec_LongestAlarm.l0
   repeat' first
   | (with_reducible exact ih0 _ _ _ _ _ _ _)
   | (with_reducible exact ih1 _ _ _ _ _ _ _ _)
   | (with_reducible exact ih2 _ _ _ _ _ _ _ _)
   | (with_reducible exact spec_l21Asked.mono _ _ _ _)
   | (with_reducible exact LeO.refl _)
   | (with_reducible exact LeO.none _)
   | (with_reducible refine LeO.ite ?_ ?_)
   | (with_reducible refine LeO.bind ?_ (fun _ => ?_))
   | exact ih0 _ _ _ _ _ _ _
   | exact ih1 _ _ _ _ _ _ _ _
   | exact ih2 _ _ _ _ _ _ _ _
   | exact spec_l21Asked.mono _ _ _ _
   | exact LeO.none _
   | refine LeO.ite ?_ ?_
   | refine LeO.bind ?_ (fun _ => ?_)
  ·intro y0 y1 y2 y3 y4 y5 y6 y7
   unfold spec_LongestAlarm.j2
   repeat' first
   | (with_reducible exact ih0 _ _ _ _ _ _ _)
   | (with_reducible exact ih1 _ _ _ _ _ _ _ _)
   | (with_reducible exact ih2 _ _ _ _ _ _ _ _)
   | (with_reducible exact spec_l21Asked.mono _ _ _ _)
   | (with_reducible exact LeO.refl _)
   | (with_reducible exact LeO.none _)
   | (with_reducible refine LeO.ite ?_ ?_)
   | (with_reducible refine LeO.bind ?_ (fun _ => ?_))
   | exact ih0 _ _ _ _ _ _ _
   | exact ih1 _ _ _ _ _ _ _ _
   | exact ih2 _ _ _ _ _ _ _ _
   | exact spec_l21Asked.mono _ _ _ _
   | exact LeO.none _
   | refine LeO.ite ?_ ?_
   | refine LeO.bind ?_ (fun _ => ?_)
  ·intro y0 y1 y2 y3 y4 y5 y6 y7
   unfold spec_LongestAlarm.l1
   repeat' first
   | (with_reducible exact ih0 _ _ _ _ _ _ _)
   | (with_reducible exact ih1 _ _ _ _ _ _ _ _)
   | (with_reducible exact ih2 _ _ _ _ _ _ _ _)
   | (with_reducible exact spec_l21Asked.mono _ _ _ _)
   | (with_reducible exact LeO.refl _)
   | (with_reducible exact LeO.none _)
   | (with_reducible refine LeO.ite ?_ ?_)
   | (with_reducible refine LeO.bind ?_ (fun _ => ?_))
   | exact ih0 _ _ _ _ _ _ _
   | exact ih1 _ _ _ _ _ _ _ _
   | exact ih2 _ _ _ _ _ _ _ _
   | exact spec_l21Asked.mono _ _ _ _
   | exact LeO.none _
   | refine LeO.ite ?_ ?_
   | refine LeO.bind ?_ (fun _ => ?_)
theorem spec_LongestAlarm.mono : ∀ a0 a1 a2 k,LeO (spec_LongestAlarm.f k a0 a1 a2) (spec_LongestAlarm.f (k + 1) a0 a1 a2):=by
 intro a0 a1 a2 k
 obtain ⟨ih0,ih1,ih2⟩ := spec_LongestAlarm.mono_l k
 unfold spec_LongestAlarm.f
 repeat' first
   | (with_reducible exact ih0 _ _ _ _ _ _ _)
   | (with_reducible exact ih1 _ _ _ _ _ _ _ _)
   | (with_reducible exact ih2 _ _ _ _ _ _ _ _)
   | (with_reducible exact spec_l21Asked.mono _ _ _ _)
   | (with_reducible exact LeO.refl _)
   | (with_reducible exact LeO.none _)
   | (with_reducible refine LeO.ite ?_ ?_)
   | (with_reducible refine LeO.bind ?_ (fun _ => ?_))
   | exact ih0 _ _ _ _ _ _ _
   | exact ih1 _ _ _ _ _ _ _ _
   | exact ih2 _ _ _ _ _ _ _ _
   | exact spec_l21Asked.mono _ _ _ _
   | exact LeO.none _
   | refine LeO.ite ?_ ?_
   | refine LeO.bind ?_ (fun _ => ?_)
set_option maxHeartbeats 8000000 in
set_option maxRecDepth 100000 in
theorem spec_LongestAlarm.calls (k : Nat) (A0 : Option Addr) (c0 : Nat) (l0 : List (S41)) (a1 : Int) (a2 : Int) (r1 : Int) (r2 : Int) (r3 : Bool) (w : World) (hr0 : Kd.C k41 w A0 l0.length l0) (hc0 : l0.length ≤ c0) (h : spec_LongestAlarm.f k l0 a1 a2 = some (r1,r2,r3)) :
  Calls Tryd.prog 13 #[.slice A0 l0.length c0, .int .i64 a1, .int .i64 a2] w fun e w' => e = .returned (.tuple #[.int .i64 r1, .int .i64 r2, .bool r3]) ∧ Below w.heap.size w w':=by
 have hu41:=Tryd.underlying41
 have HR0:=Aside0.mk hr0
 have HC0:=Aside0.mk hc0
 clear hr0 hc0
 have HB:=Aside0.mk (Below.refl w.heap.size w)
 have H : ((spec_l21Asked.f k l0 a1 a2).bind fun t268 => (if t268 = true then (spec_LongestAlarm.l0 k l0 a1 a2 0 0 false 0) else (some (0,0,false)))) = some (r1,r2,r3):=h
 clear h
 replace H:=Option.bind_eq_some_iff.mp H
 obtain ⟨t268,A40,H⟩ := H
 replace H : (if t268 = true then (spec_LongestAlarm.l0 k l0 a1 a2 0 0 false 0) else (some (0,0,false))) = some (r1,r2,r3):=H
 have A4:=Aside0.mk A40
 clear A40
 by_cases c5 : t268 = true
 ·subst c5
  have H1 : (spec_LongestAlarm.l0 k l0 a1 a2 0 0 false 0) = some (r1,r2,r3):=by rw [if_pos rfl] at H;exact H
  clear H
  have H:=H1
  clear H1
  have H':=Aside0.mk H
  clear H
  go_enter Tryd.func13,Tryd.ntmps13
  go_wp2_with ((go_at_call 34;(with_reducible refine (spec_l21Asked.calls k _ _ l0 a1 a2 true _ ?side1 ?side2 A4.out).mono ?_);(case side1 => repeat (exact HR0.out));(case side2 => exact HC0.out);rintro e w6 ⟨rfl,hb⟩;have n0_:=Aside0.mk (below_step (by exact HB.out) hb);clear HB;have HB:=n0_;clear n0_;(try clear hb)))
  repeat (go_quiet (fail);try go_wp2_with (fail))
  (skip)
  go_loopg [9,10,11,12] k (fun kq v9 v10 v11 v12 w' => ∃ (x9_1 : Int) (x10_1 : Int) (x11_1 : Bool) (x12_1 : Int),v9 = .int .i64 x9_1 ∧ v10 = .int .i64 x10_1 ∧ v11 = .bool x11_1 ∧ v12 = .int .i64 x12_1 ∧ Aside0 (spec_LongestAlarm.l0 kq l0 a1 a2 x9_1 x10_1 x11_1 x12_1 = some (r1,r2,r3)) ∧ Aside0 (kq ≤ k) ∧ Aside0 (Below w.heap.size w w'))
  case atStart => exact ⟨(0),(0),(false),(0),(by rfl),(by rfl),(by rfl),(by rfl),H',⟨Nat.le_refl _⟩,⟨by exact HB.out⟩⟩
  case round =>
   clear H'
   try clear c1
   try clear p2
   try clear c5
   obtain ⟨x9_1,x10_1,x11_1,x12_1,rfl,rfl,rfl,rfl,HA,HK1,HB⟩ := hrel
   cases gk with
   | zero => exact absurd HA.out (by simp [spec_LongestAlarm.l0])
   | succ k1 =>
    have H:=HA.out
    clear HA
    simp only [spec_LongestAlarm.l0] at H
    by_cases c7 : x12_1 < (l0.length : Int)
    ·rw [if_pos c7] at H
     have c7b0 : decide (x12_1 < (l0.length : Int)) = true:=decide_eq_true c7
     clear c7
     have HC8:=Aside0.mk H
     clear H
     go_upto_block 2 with (fail)
     repeat (go_quiet (fail);go_upto_block 2 with (fail))
     go_cut [13] (fun v13 wc => ∃ (kq : Nat) (x13_7 : Int),v13 = .int .i64 x13_7 ∧ Aside0 (spec_LongestAlarm.j2 kq l0 a1 a2 x9_1 x10_1 x11_1 x12_1 x13_7 = some (r1,r2,r3)) ∧ Aside0 (kq ≤ k1) ∧ Aside0 (Below w.heap.size w wc))
     case first =>
      have H:=HC8.out
      clear HC8
      have H':=Aside0.mk H
      clear H
      go_wp2
      repeat (go_quiet (fail);try go_wp2)
      (skip)
      go_loopg [13] k1 (fun kq v13 w' => ∃ (x13_2 : Int),v13 = .int .i64 x13_2 ∧ Aside0 (spec_LongestAlarm.l1 kq l0 a1 a2 x9_1 x10_1 x11_1 x12_1 x13_2 = some (r1,r2,r3)) ∧ Aside0 (kq ≤ k1) ∧ Aside0 (Below w.heap.size w w'))
      case atStart => exact ⟨(x12_1),(by rfl),H',⟨Nat.le_refl _⟩,⟨by exact HB.out⟩⟩
      case round =>
       clear H'
       try clear c1
       try clear p2
       try clear c5
       try clear c7
       try clear c7b0
       try clear p2
       obtain ⟨x13_2,rfl,HA,HK2,HB⟩ := hrel
       cases gk with
       | zero => exact absurd HA.out (by simp [spec_LongestAlarm.l1])
       | succ k2 =>
        have H:=HA.out
        clear HA
        simp only [spec_LongestAlarm.l1] at H
        by_cases c9 : x13_2 < (l0.length : Int)
        ·rw [if_pos c9] at H
         have c9b0 : decide (x13_2 < (l0.length : Int)) = true:=decide_eq_true c9
         clear c9
         (skip)
         by_cases c10 : 0 ≤ x13_2
         ·rw [if_pos c10] at H
          have c10b0 : decide (0 ≤ x13_2) = true:=decide_eq_true c10
          clear c10
          replace H:=Option.bind_eq_some_iff.mp H
          obtain ⟨t270,A110,H⟩ := H
          replace H : (if t270 = true then (spec_LongestAlarm.j2 k2 l0 a1 a2 x9_1 x10_1 x11_1 x12_1 x13_2) else (spec_LongestAlarm.l1 k2 l0 a1 a2 x9_1 x10_1 x11_1 x12_1 (wrap64 (x13_2 + 1)))) = some (r1,r2,r3):=H
          have A11:=Aside0.mk A110
          clear A110
          by_cases c12 : t270 = true
          ·subst c12
           have H1 : (spec_LongestAlarm.j2 k2 l0 a1 a2 x9_1 x10_1 x11_1 x12_1 x13_2) = some (r1,r2,r3):=by rw [if_pos rfl] at H;exact H
           clear H
           have H:=H1
           clear H1
           have H':=Aside0.mk H
           clear H
           have p269 : 0 ≤ (x13_2 : Int):=of_decide_eq_true (by (with_reducible assumption))
           have q269 : x13_2 < (l0.length : Int):=of_decide_eq_true (by (with_reducible assumption))
           obtain ⟨ad269,e269,hx269_0,hx269_1,hx269_2⟩ := at_T41 HR0.out x13_2 p269 q269
           cases e269
           replace hx269_0:=(HB.out.cell (World.block_lt_of_cell? w _ hx269_0)).trans hx269_0
           replace hx269_1:=(HB.out.cell (World.block_lt_of_cell? w _ hx269_1)).trans hx269_1
           replace hx269_2:=(HB.out.cell (World.block_lt_of_cell? w _ hx269_2)).trans hx269_2
           replace p269:=eq_true p269
           replace q269:=eq_true q269
           go_wp2_with ((go_at_call 35;(with_reducible refine (spec_l21Fine.calls ((rd_T41 l0 x13_2).f0) ((rd_T41 l0 x13_2).f1) ((rd_T41 l0 x13_2).f2) a1 a2 true _ A11.out).mono ?_);rintro e w13 ⟨rfl,hb⟩;have n0_:=Aside0.mk (below_step (by exact HB.out) hb);clear HB;have HB:=n0_;clear n0_;(try clear hb)))
           repeat (go_quiet (fail);try go_wp2_with (fail))
           go_meet
           case rel => exact ⟨_,(x13_2),(by rfl),H',⟨by have:=HK1.out;have:=HK2.out;omega⟩,⟨by exact HB.out⟩⟩
          ·replace c12:=Bool.eq_false_iff.mpr c12
           subst c12
           have H1 : (spec_LongestAlarm.l1 k2 l0 a1 a2 x9_1 x10_1 x11_1 x12_1 (wrap64 (x13_2 + 1))) = some (r1,r2,r3):=by rw [if_neg (show ¬ (false = true) by decide)] at H;exact H
           clear H
           have H:=H1
           clear H1
           have H':=Aside0.mk H
           clear H
           have p269 : 0 ≤ (x13_2 : Int):=of_decide_eq_true (by (with_reducible assumption))
           have q269 : x13_2 < (l0.length : Int):=of_decide_eq_true (by (with_reducible assumption))
           obtain ⟨ad269,e269,hx269_0,hx269_1,hx269_2⟩ := at_T41 HR0.out x13_2 p269 q269
           cases e269
           replace hx269_0:=(HB.out.cell (World.block_lt_of_cell? w _ hx269_0)).trans hx269_0
           replace hx269_1:=(HB.out.cell (World.block_lt_of_cell? w _ hx269_1)).trans hx269_1
           replace hx269_2:=(HB.out.cell (World.block_lt_of_cell? w _ hx269_2)).trans hx269_2
           replace p269:=eq_true p269
           replace q269:=eq_true q269
           go_wp2_with ((go_at_call 35;(with_reducible refine (spec_l21Fine.calls ((rd_T41 l0 x13_2).f0) ((rd_T41 l0 x13_2).f1) ((rd_T41 l0 x13_2).f2) a1 a2 false _ A11.out).mono ?_);rintro e w14 ⟨rfl,hb⟩;have n0_:=Aside0.mk (below_step (by exact HB.out) hb);clear HB;have HB:=n0_;clear n0_;(try clear hb)))
           repeat (go_quiet (fail);try go_wp2_with (fail))
           go_roundg k2
           case measure => have:=HK1.out;have:=HK2.out;omega
           case rel => exact ⟨(wrap64 (x13_2 + 1)),(by rfl),H',⟨by have:=HK1.out;have:=HK2.out;omega⟩,⟨by exact HB.out⟩⟩
         ·rw [if_neg c10] at H
          exact absurd H (by simp)
        ·rw [if_neg c9] at H
         have c9b0 : decide (x13_2 < (l0.length : Int)) = false:=decide_eq_false c9
         clear c9
         (skip)
         have H':=Aside0.mk H
         clear H
         go_wp2
         repeat (go_quiet (fail);try go_wp2)
         go_meet
         case rel => exact ⟨_,(x13_2),(by rfl),H',⟨by have:=HK1.out;have:=HK2.out;omega⟩,⟨by exact HB.out⟩⟩
     case rest =>
      clear HC8
      try clear c1
      try clear p2
      try clear q2
      try clear hx2
      try clear c5
      try clear p6
      try clear c7
      try clear c7b0
      try clear c9
      try clear c9b0
      try clear c10
      try clear c10b0
      try clear c12
      try clear c13
      try clear hx269_0
      try clear hx269_1
      try clear hx269_2
      try clear p2
      try clear p269
      try clear q269
      obtain ⟨kq,x13_7,rfl,HA,HJ7,HB⟩ := hcut
      cases kq with
      | zero => exact absurd HA.out (by simp [spec_LongestAlarm.j2])
      | succ kj7 =>
       have H:=HA.out
       clear HA
       simp only [spec_LongestAlarm.j2] at H
       by_cases c15 : x13_7 = x12_1
       ·rw [if_pos c15] at H
        have c15b0 : (x13_7 == x12_1) = true:=beq_iff_eq.mpr c15
        have c15b1 : (x13_7 != x12_1) = false:=bne_eq_false_iff_eq.mpr c15
        clear c15
        have H':=Aside0.mk H
        clear H
        go_wp2
        repeat (go_quiet (fail);try go_wp2)
        go_roundg kj7
        case measure => have:=HK1.out;have:=HJ7.out;omega
        case rel => exact ⟨(x9_1),(x10_1),(x11_1),(wrap64 (x12_1 + 1)),(by rfl),(by rfl),(by rfl),(by rfl),H',⟨by have:=HK1.out;have:=HJ7.out;omega⟩,⟨by exact HB.out⟩⟩
       ·rw [if_neg c15] at H
        have c15b0 : (x13_7 == x12_1) = false:=beq_eq_false_iff_ne.mpr c15
        have c15b1 : (x13_7 != x12_1) = true:=bne_iff_ne.mpr c15
        by_cases c16 : 0 ≤ x12_1
        ·rw [if_pos c16] at H
         have c16b0 : decide (0 ≤ x12_1) = true:=decide_eq_true c16
         clear c16
         by_cases c17 : x12_1 < (l0.length : Int)
         ·rw [if_pos c17] at H
          have c17b0 : decide (x12_1 < (l0.length : Int)) = true:=decide_eq_true c17
          clear c17
          obtain ⟨ji18,hji18⟩ : ∃ j_ : Int,(wrap64 (x13_7 - 1)) = j_:=⟨_,rfl⟩
          replace H : (if 0 ≤ (ji18) then (if (ji18) < (l0.length : Int) then (if x11_1 = true then (if (wrap64 (((rd_T41 l0 (ji18)).f0) - ((rd_T41 l0 x12_1).f0))) > (wrap64 (x10_1 - x9_1)) then (spec_LongestAlarm.l0 kj7 l0 a1 a2 ((rd_T41 l0 x12_1).f0) ((rd_T41 l0 (ji18)).f0) true (wrap64 (x13_7 + 1))) else (spec_LongestAlarm.l0 kj7 l0 a1 a2 x9_1 x10_1 x11_1 (wrap64 (x13_7 + 1)))) else (spec_LongestAlarm.l0 kj7 l0 a1 a2 ((rd_T41 l0 x12_1).f0) ((rd_T41 l0 (ji18)).f0) true (wrap64 (x13_7 + 1)))) else (none)) else (none)) = some (r1,r2,r3):=by (rw [hji18] at H;exact H)
          have hji18w : (IntKind.i64.wrap (x13_7 - 1)) = ji18:=(i64_w _).trans hji18
          by_cases c19 : 0 ≤ (ji18)
          ·rw [if_pos c19] at H
           have c19b0 : decide (0 ≤ (ji18)) = true:=decide_eq_true c19
           clear c19
           by_cases c20 : (ji18) < (l0.length : Int)
           ·rw [if_pos c20] at H
            have c20b0 : decide ((ji18) < (l0.length : Int)) = true:=decide_eq_true c20
            clear c20
            by_cases c21 : x11_1 = true
            ·subst c21
             have H1 : (if (wrap64 (((rd_T41 l0 (ji18)).f0) - ((rd_T41 l0 x12_1).f0))) > (wrap64 (x10_1 - x9_1)) then (spec_LongestAlarm.l0 kj7 l0 a1 a2 ((rd_T41 l0 x12_1).f0) ((rd_T41 l0 (ji18)).f0) true (wrap64 (x13_7 + 1))) else (spec_LongestAlarm.l0 kj7 l0 a1 a2 x9_1 x10_1 true (wrap64 (x13_7 + 1)))) = some (r1,r2,r3):=by rw [if_pos rfl] at H;exact H
             clear H
             have H:=H1
             clear H1
             by_cases c22 : (wrap64 (((rd_T41 l0 (ji18)).f0) - ((rd_T41 l0 x12_1).f0))) > (wrap64 (x10_1 - x9_1))
             ·rw [if_pos c22] at H
              have c22b0 : decide ((wrap64 (x10_1 - x9_1)) < (wrap64 (((rd_T41 l0 (ji18)).f0) - ((rd_T41 l0 x12_1).f0)))) = true:=decide_eq_true c22
              clear c22
              have H':=Aside0.mk H
              clear H
              have p271 : 0 ≤ (x12_1 : Int):=of_decide_eq_true (by (with_reducible assumption))
              have q271 : x12_1 < (l0.length : Int):=of_decide_eq_true (by (with_reducible assumption))
              obtain ⟨ad271,e271,hx271_0,hx271_1,hx271_2⟩ := at_T41 HR0.out x12_1 p271 q271
              cases e271
              replace hx271_0:=(HB.out.cell (World.block_lt_of_cell? w _ hx271_0)).trans hx271_0
              replace hx271_1:=(HB.out.cell (World.block_lt_of_cell? w _ hx271_1)).trans hx271_1
              replace hx271_2:=(HB.out.cell (World.block_lt_of_cell? w _ hx271_2)).trans hx271_2
              replace p271:=eq_true p271
              replace q271:=eq_true q271
              have p272 : 0 ≤ ((ji18) : Int):=of_decide_eq_true (by (with_reducible assumption))
              have q272 : (ji18) < (l0.length : Int):=of_decide_eq_true (by (with_reducible assumption))
              obtain ⟨ad272,e272,hx272_0,hx272_1,hx272_2⟩ := at_T41 HR0.out (ji18) p272 q272
              obtain rfl : ad271 = ad272:=(by injection e272)
              replace hx272_0:=(HB.out.cell (World.block_lt_of_cell? w _ hx272_0)).trans hx272_0
              replace hx272_1:=(HB.out.cell (World.block_lt_of_cell? w _ hx272_1)).trans hx272_1
              replace hx272_2:=(HB.out.cell (World.block_lt_of_cell? w _ hx272_2)).trans hx272_2
              replace p272:=eq_true p272
              replace q272:=eq_true q272
              go_wp2
              repeat (go_quiet (fail);try go_wp2)
              go_roundg kj7
              case measure => have:=HK1.out;have:=HJ7.out;omega
              case rel => exact ⟨((rd_T41 l0 x12_1).f0),((rd_T41 l0 (ji18)).f0),(true),(wrap64 (x13_7 + 1)),(by rfl),(by rfl),(by rfl),(by rfl),H',⟨by have:=HK1.out;have:=HJ7.out;omega⟩,⟨by repeat ((with_reducible first | exact HB.out | apply pw_below_drewN))⟩⟩
             ·rw [if_neg c22] at H
              have c22b0 : decide ((wrap64 (x10_1 - x9_1)) < (wrap64 (((rd_T41 l0 (ji18)).f0) - ((rd_T41 l0 x12_1).f0)))) = false:=decide_eq_false c22
              clear c22
              have H':=Aside0.mk H
              clear H
              have p271 : 0 ≤ (x12_1 : Int):=of_decide_eq_true (by (with_reducible assumption))
              have q271 : x12_1 < (l0.length : Int):=of_decide_eq_true (by (with_reducible assumption))
              obtain ⟨ad271,e271,hx271_0,hx271_1,hx271_2⟩ := at_T41 HR0.out x12_1 p271 q271
              cases e271
              replace hx271_0:=(HB.out.cell (World.block_lt_of_cell? w _ hx271_0)).trans hx271_0
              replace hx271_1:=(HB.out.cell (World.block_lt_of_cell? w _ hx271_1)).trans hx271_1
              replace hx271_2:=(HB.out.cell (World.block_lt_of_cell? w _ hx271_2)).trans hx271_2
              replace p271:=eq_true p271
              replace q271:=eq_true q271
              have p272 : 0 ≤ ((ji18) : Int):=of_decide_eq_true (by (with_reducible assumption))
              have q272 : (ji18) < (l0.length : Int):=of_decide_eq_true (by (with_reducible assumption))
              obtain ⟨ad272,e272,hx272_0,hx272_1,hx272_2⟩ := at_T41 HR0.out (ji18) p272 q272
              obtain rfl : ad271 = ad272:=(by injection e272)
              replace hx272_0:=(HB.out.cell (World.block_lt_of_cell? w _ hx272_0)).trans hx272_0
              replace hx272_1:=(HB.out.cell (World.block_lt_of_cell? w _ hx272_1)).trans hx272_1
              replace hx272_2:=(HB.out.cell (World.block_lt_of_cell? w _ hx272_2)).trans hx272_2
              replace p272:=eq_true p272
              replace q272:=eq_true q272
              go_wp2
              repeat (go_quiet (fail);try go_wp2)
              go_roundg kj7
              case measure => have:=HK1.out;have:=HJ7.out;omega
              case rel => exact ⟨(x9_1),(x10_1),(true),(wrap64 (x13_7 + 1)),(by rfl),(by rfl),(by rfl),(by rfl),H',⟨by have:=HK1.out;have:=HJ7.out;omega⟩,⟨by repeat ((with_reducible first | exact HB.out | apply pw_below_drewN))⟩⟩
            ·replace c21:=Bool.eq_false_iff.mpr c21
             subst c21
             have H1 : (spec_LongestAlarm.l0 kj7 l0 a1 a2 ((rd_T41 l0 x12_1).f0) ((rd_T41 l0 (ji18)).f0) true (wrap64 (x13_7 + 1))) = some (r1,r2,r3):=by rw [if_neg (show ¬ (false = true) by decide)] at H;exact H
             clear H
             have H:=H1
             clear H1
             have H':=Aside0.mk H
             clear H
             have p271 : 0 ≤ (x12_1 : Int):=of_decide_eq_true (by (with_reducible assumption))
             have q271 : x12_1 < (l0.length : Int):=of_decide_eq_true (by (with_reducible assumption))
             obtain ⟨ad271,e271,hx271_0,hx271_1,hx271_2⟩ := at_T41 HR0.out x12_1 p271 q271
             cases e271
             replace hx271_0:=(HB.out.cell (World.block_lt_of_cell? w _ hx271_0)).trans hx271_0
             replace hx271_1:=(HB.out.cell (World.block_lt_of_cell? w _ hx271_1)).trans hx271_1
             replace hx271_2:=(HB.out.cell (World.block_lt_of_cell? w _ hx271_2)).trans hx271_2
             replace p271:=eq_true p271
             replace q271:=eq_true q271
             have p272 : 0 ≤ ((ji18) : Int):=of_decide_eq_true (by (with_reducible assumption))
             have q272 : (ji18) < (l0.length : Int):=of_decide_eq_true (by (with_reducible assumption))
             obtain ⟨ad272,e272,hx272_0,hx272_1,hx272_2⟩ := at_T41 HR0.out (ji18) p272 q272
             obtain rfl : ad271 = ad272:=(by injection e272)
             replace hx272_0:=(HB.out.cell (World.block_lt_of_cell? w _ hx272_0)).trans hx272_0
             replace hx272_1:=(HB.out.cell (World.block_lt_of_cell? w _ hx272_1)).trans hx272_1
             replace hx272_2:=(HB.out.cell (World.block_lt_of_cell? w _ hx272_2)).trans hx272_2
             replace p272:=eq_true p272
             replace q272:=eq_true q272
             go_wp2
             repeat (go_quiet (fail);try go_wp2)
             go_roundg kj7
             case measure => have:=HK1.out;have:=HJ7.out;omega
             case rel => exact ⟨((rd_T41 l0 x12_1).f0),((rd_T41 l0 (ji18)).f0),(true),(wrap64 (x13_7 + 1)),(by rfl),(by rfl),(by rfl),(by rfl),H',⟨by have:=HK1.out;have:=HJ7.out;omega⟩,⟨by repeat ((with_reducible first | exact HB.out | apply pw_below_drewN))⟩⟩
           ·rw [if_neg c20] at H
            exact absurd H (by simp)
          ·rw [if_neg c19] at H
           exact absurd H (by simp)
         ·rw [if_neg c17] at H
          exact absurd H (by simp)
        ·rw [if_neg c16] at H
         exact absurd H (by simp)
    ·rw [if_neg c7] at H
     have c7b0 : decide (x12_1 < (l0.length : Int)) = false:=decide_eq_false c7
     clear c7
     simp only [Option.some.injEq,Prod.mk.injEq] at H
     obtain ⟨rfl,rfl,rfl⟩ := H
     go_wp2
     repeat (go_quiet (fail);try go_wp2)
     go_ret3
     exact ⟨by rfl,by exact HB.out⟩
 ·replace c5:=Bool.eq_false_iff.mpr c5
  subst c5
  have H1 : (some (0,0,false)) = some (r1,r2,r3):=by rw [if_neg (show ¬ (false = true) by decide)] at H;exact H
  clear H
  have H:=H1
  clear H1
  simp only [Option.some.injEq,Prod.mk.injEq] at H
  obtain ⟨rfl,rfl,rfl⟩ := H
  go_enter Tryd.func13,Tryd.ntmps13
  go_wp2_with ((go_at_call 34;(with_reducible refine (spec_l21Asked.calls k _ _ l0 a1 a2 false _ ?side1 ?side2 A4.out).mono ?_);(case side1 => repeat (exact HR0.out));(case side2 => exact HC0.out);rintro e w23 ⟨rfl,hb⟩;have n0_:=Aside0.mk (below_step (by exact HB.out) hb);clear HB;have HB:=n0_;clear n0_;(try clear hb)))
  repeat (go_quiet (fail);try go_wp2_with (fail))
  go_ret3
  exact ⟨by rfl,by exact HB.out⟩

/-! ### impl_BadReadings: function 14 -/
def impl_BadReadings.l0 : Nat → Int → Int → List Int → List (S41) → Int → Int → Option (List Int × Bool)
 | 0,_,_,_,_,_,_ => none
 | k + 1,x1,x2,x8,x17,x18,x19 => if x19 < x18 then (if 0 ≤ x19 then (if x19 < (x17.length : Int) then ((impl_size.f (wrap64 (((rd_T41 x17 x19).f1) - x1))).bind fun t279 => (if t279 > x2 then (if x8.length < 17592186044416 then (impl_BadReadings.l0 k x1 x2 (x8 ++ [(rd_T41 x17 x19).f0]) x17 x18 (wrap64 (x19 + 1))) else (none)) else (impl_BadReadings.l0 k x1 x2 x8 x17 x18 (wrap64 (x19 + 1))))) else (none)) else (none)) else (some (x8,true))
def impl_BadReadings.f (k : Nat) (l0 : List (S41)) (a1 : Int) (a2 : Int) : Option (List Int × Bool):=(impl_isSetting.f k l0 a1 a2).bind fun t273 => (if t273 = true then (impl_BadReadings.l0 k a1 a2 (([] : List Int)) l0 (l0.length : Int) 0) else (some (([] : List Int),false)))
theorem impl_BadReadings.mono_l : ∀ k,(∀ y0 y1 y2 y3 y4 y5,LeO (impl_BadReadings.l0 k y0 y1 y2 y3 y4 y5) (impl_BadReadings.l0 (k + 1) y0 y1 y2 y3 y4 y5))
 | 0 => fun _ _ _ _ _ _ r h => by simp [impl_BadReadings.l0] at h
 | k + 1 => by
  have ih0:=impl_BadReadings.mono_l k
  ·intro y0 y1 y2 y3 y4 y5
   unfold impl_BadReadings.l0
   repeat' first
   | (with_reducible exact ih0 _ _ _ _ _ _)
   | (with_reducible exact impl_isSetting.mono _ _ _ _)
   | (with_reducible exact LeO.refl _)
   | (with_reducible exact LeO.none _)
   | (with_reducible refine LeO.ite ?_ ?_)
   | (with_reducible refine LeO.bind ?_ (fun _ => ?_))
   | exact ih0 _ _ _ _ _ _
   | exact impl_isSetting.mono _ _ _ _
   | exact LeO.none _
   | refine LeO.ite ?_ ?_
   | refine LeO.bind ?_ (fun _ => ?_)
theorem impl_BadReadings.mono : ∀ a0 a1 a2 k,LeO (impl_BadReadings.f k a0 a1 a2) (impl_BadReadings.f (k + 1) a0 a1 a2):=by
 intro a0 a1 a2 k
 have ih0:=impl_BadReadings.mono_l k
 unfold impl_BadReadings.f
 repeat' first
   | (with_reducible exact ih0 _ _ _ _ _ _)
   | (with_reducible exact impl_isSetting.mono _ _ _ _)
   | (with_reducible exact LeO.refl _)
   | (with_reducible exact LeO.none _)
   | (with_reducible refine LeO.ite ?_ ?_)
   | (with_reducible refine LeO.bind ?_ (fun _ => ?_))
   | exact ih0 _ _ _ _ _ _
   | exact impl_isSetting.mono _ _ _ _
   | exact LeO.none _
   | refine LeO.ite ?_ ?_
   | refine LeO.bind ?_ (fun _ => ?_)
set_option maxHeartbeats 8000000 in
set_option maxRecDepth 100000 in
theorem impl_BadReadings.calls (k : Nat) (A0 : Option Addr) (c0 : Nat) (l0 : List (S41)) (a1 : Int) (a2 : Int) (r1 : List Int) (r2 : Bool) (w : World) (hr0 : Kd.C k41 w A0 l0.length l0) (hc0 : l0.length ≤ c0) (h : impl_BadReadings.f k l0 a1 a2 = some (r1,r2)) :
  Calls Tryd.prog 14 #[.slice A0 l0.length c0, .int .i64 a1, .int .i64 a2] w fun e w' => ∃ v0_ : Value,e = .returned (.tuple #[v0_, .bool r2]) ∧ Kd.R (Kd.int .i64) 3 w' w.heap.size (fun _ => True) v0_ r1 ∧ Below w.heap.size w w':=by
 have hu41:=Tryd.underlying41
 have HR0:=Aside0.mk hr0
 have HC0:=Aside0.mk hc0
 clear hr0 hc0
 have HB:=Aside0.mk (Below.refl w.heap.size w)
 have H : ((impl_isSetting.f k l0 a1 a2).bind fun t273 => (if t273 = true then (impl_BadReadings.l0 k a1 a2 (([] : List Int)) l0 (l0.length : Int) 0) else (some (([] : List Int),false)))) = some (r1,r2):=h
 clear h
 replace H:=Option.bind_eq_some_iff.mp H
 obtain ⟨t273,A40,H⟩ := H
 replace H : (if t273 = true then (impl_BadReadings.l0 k a1 a2 (([] : List Int)) l0 (l0.length : Int) 0) else (some (([] : List Int),false))) = some (r1,r2):=H
 have A4:=Aside0.mk A40
 clear A40
 by_cases c5 : t273 = true
 ·subst c5
  have H1 : (impl_BadReadings.l0 k a1 a2 (([] : List Int)) l0 (l0.length : Int) 0) = some (r1,r2):=by rw [if_pos rfl] at H;exact H
  clear H
  have H:=H1
  clear H1
  obtain ⟨y274,hy274⟩ : ∃ y_ : List Int,y_ = (([] : List Int)):=⟨_,rfl⟩
  replace H : (impl_BadReadings.l0 k a1 a2 y274 l0 (l0.length : Int) 0) = some (r1,r2):=by (rw [hy274];with_reducible exact H)
  have Ny274:=Aside0.mk hy274
  clear hy274
  have H':=Aside0.mk H
  clear H
  go_enter Tryd.func14,Tryd.ntmps14
  go_wp2_with (first | ((with_reducible refine gate_callee (f:=32) rfl ?_);refine goesL_ (some 14) rfl rfl Tryd.func32 (by kernel_rfl) rfl #[.slice A0 l0.length c0, .int .i64 a1, .int .i64 a2] rfl (by (try simp only [List.map_toArray,List.map_cons,List.map_nil]);rfl) ?_;(with_reducible refine (impl_isSetting.calls k _ _ l0 a1 a2 true _ ?side1 ?side2 A4.out).mono ?_);(case side1 => repeat (exact HR0.out));(case side2 => exact HC0.out);rintro e w6 ⟨rfl,hb⟩;refine ⟨_,rfl, ?_⟩;have n0_:=Aside0.mk (below_step (by exact HB.out) hb);clear HB;have HB:=n0_;clear n0_;(try clear hb)) | ((with_reducible refine gate_dst (N:=16) rfl ?_);refine Kd.R_lit (Kd.int .i64) _ 3 ?hg (N:=16) ?hd (xs:=([] : List Int)) (inner := []) (ok:=fun _ => True) (okp:=fun _ => True) ?hr ?hp (fun _ hk => hk) trivial (Below.refl _ _) (Nat.le_refl _) (by simp) ?_;(case hd => rfl);(case hg => rfl);(case hr => (go_simp;done));(case hp => exact (Reps.none _ _));intro v275 w7 ho8 hb hg_ hnew_;clear hg_ hnew_;(rw [← Ny274.out] at ho8);have n0_:=Aside0.mk (Kd.R_lower ho8 (below_size (by exact HB.out)));have n1_:=Aside0.mk (below_step (by exact HB.out) hb);clear HB;have HO276:=n0_;have HB:=n1_;clear n0_ n1_;clear hb ho8))
  (skip)
  go_loopg [8,19] k (fun kq v8 v19 w' => ∃ (x8_1 : List Int) (x19_1 : Int),v19 = .int .i64 x19_1 ∧ Aside0 (impl_BadReadings.l0 kq a1 a2 x8_1 l0 (l0.length : Int) x19_1 = some (r1,r2)) ∧ Aside0 (kq ≤ k) ∧ Aside0 (Kd.R (Kd.int .i64) 3 w' w.heap.size (fun _ => True) v8 x8_1) ∧ Aside0 (Below w.heap.size w w'))
  case atStart => exact ⟨(y274),(0),(by rfl),H',⟨Nat.le_refl _⟩,⟨by exact HO276.out⟩,⟨by exact HB.out⟩⟩
  case round =>
   clear H'
   try clear c1
   try clear p2
   try clear c3
   try clear c5
   obtain ⟨x8_1,x19_1,rfl,HA,HK1,HO_8,HB⟩ := hrel
   cases gk with
   | zero => exact absurd HA.out (by simp [impl_BadReadings.l0])
   | succ k1 =>
    have H:=HA.out
    clear HA
    simp only [impl_BadReadings.l0] at H
    by_cases c9 : x19_1 < (l0.length : Int)
    ·rw [if_pos c9] at H
     have c9b0 : decide (x19_1 < (l0.length : Int)) = true:=decide_eq_true c9
     clear c9
     by_cases c10 : 0 ≤ x19_1
     ·rw [if_pos c10] at H
      have c10b0 : decide (0 ≤ x19_1) = true:=decide_eq_true c10
      clear c10
      by_cases c11 : x19_1 < (l0.length : Int)
      ·rw [if_pos c11] at H
       have c11b0 : decide (x19_1 < (l0.length : Int)) = true:=decide_eq_true c11
       clear c11
       replace H:=Option.bind_eq_some_iff.mp H
       obtain ⟨t279,A120,H⟩ := H
       replace H : (if t279 > a2 then (if x8_1.length < 17592186044416 then (impl_BadReadings.l0 k1 a1 a2 (x8_1 ++ [(rd_T41 l0 x19_1).f0]) l0 (l0.length : Int) (wrap64 (x19_1 + 1))) else (none)) else (impl_BadReadings.l0 k1 a1 a2 x8_1 l0 (l0.length : Int) (wrap64 (x19_1 + 1)))) = some (r1,r2):=H
       have A12:=Aside0.mk A120
       clear A120
       by_cases c13 : t279 > a2
       ·rw [if_pos c13] at H
        have c13b0 : decide (a2 < t279) = true:=decide_eq_true c13
        clear c13
        by_cases c14 : x8_1.length < 17592186044416
        ·rw [if_pos c14] at H
         have LMc14:=Aside0.mk c14
         clear c14
         obtain ⟨y280,hy280⟩ : ∃ y_ : List Int,y_ = (x8_1 ++ [(rd_T41 l0 x19_1).f0]):=⟨_,rfl⟩
         replace H : (impl_BadReadings.l0 k1 a1 a2 y280 l0 (l0.length : Int) (wrap64 (x19_1 + 1))) = some (r1,r2):=by (rw [hy280];with_reducible exact H)
         have Ny280:=Aside0.mk hy280
         clear hy280
         have H':=Aside0.mk H
         clear H
         have p277 : 0 ≤ (x19_1 : Int):=of_decide_eq_true (by (with_reducible assumption))
         have q277 : x19_1 < (l0.length : Int):=of_decide_eq_true (by (with_reducible assumption))
         obtain ⟨ad277,e277,hx277_0,hx277_1,hx277_2⟩ := at_T41 HR0.out x19_1 p277 q277
         cases e277
         replace hx277_0:=(HB.out.cell (World.block_lt_of_cell? w _ hx277_0)).trans hx277_0
         replace hx277_1:=(HB.out.cell (World.block_lt_of_cell? w _ hx277_1)).trans hx277_1
         replace hx277_2:=(HB.out.cell (World.block_lt_of_cell? w _ hx277_2)).trans hx277_2
         replace p277:=eq_true p277
         replace q277:=eq_true q277
         go_wp2_with (first | ((with_reducible refine gate_dst (N:=10) rfl ?_);refine box_event ?hg (N:=10) ?hd (cs:=#[.int .i64 0, .int .i64 0, .bool false]) (t:=41) ?hr ?_;(case hd => rfl);(case hg => rfl);(case hr => (go_simp;done));intro gb278 hg w15 hbox hb;have n0_:=Aside0.mk (Kd.R_below (by exact HO_8.out) hb);have n1_:=Aside0.mk (below_step (by exact HB.out) hb);have n2_:=Aside0.mk (hbox);have n3_:=Aside0.mk ((by rw [hg];exact (below_size (by exact HB.out)) : w.heap.size ≤ gb278));have n4_:=Aside0.mk ((by rw [hg];exact (below_size (by exact HB.out)) : w.heap.size ≤ gb278));clear HO_8;clear HB;have HO_8:=n0_;have HB:=n1_;have BK278:=n2_;have GW278:=n3_;have GE278:=n4_;clear n0_ n1_ n2_ n3_ n4_;clear hb hbox hg;have hcz16_0 : w15.cell? ⟨gb278,0,none⟩ = some (.int .i64 0):=(blk_cell BK278.out 0).trans rfl;have hcz16_1 : w15.cell? ⟨gb278,1,none⟩ = some (.int .i64 0):=(blk_cell BK278.out 1).trans rfl;have hcz16_2 : w15.cell? ⟨gb278,2,none⟩ = some (.bool false):=(blk_cell BK278.out 2).trans rfl;have hfz16_0:=blk_frozen BK278.out 0;have hfz16_1:=blk_frozen BK278.out 1;have hfz16_2:=blk_frozen BK278.out 2) | ((with_reducible refine gate_callee (f:=33) rfl ?_);refine goesL_ (some 27) rfl rfl Tryd.func33 (by kernel_rfl) rfl #[.int .i64 (wrap64 (((rd_T41 l0 x19_1).f1) - a1))] rfl (by (try simp only [List.map_toArray,List.map_cons,List.map_nil]);rfl) ?_;(with_reducible refine (impl_size.calls (wrap64 (((rd_T41 l0 x19_1).f1) - a1)) t279 _ A12.out).mono ?_);rintro e w17 ⟨rfl,hb⟩;refine ⟨_,rfl, ?_⟩;have n0_:=Aside0.mk (Kd.R_below (by exact (Kd.R_mono (Kd.R_far (p:=⟨gb278,2,none⟩) (Kd.R_far (p:=⟨gb278,1,none⟩) (Kd.R_far (p:=⟨gb278,0,none⟩) (Kd.R_types HO_8.out BK278.out (by decide)) (fun _ hk => hk.2) (.int .i64 ((rd_T41 l0 x19_1).f0))) (fun _ hk => hk.2) (.int .i64 ((rd_T41 l0 x19_1).f1))) (fun _ hk => hk.2) (.bool ((rd_T41 l0 x19_1).f2))) (fun _ h_ => h_.1))) hb);have n1_:=Aside0.mk (blk_below (g:=gb278) (o := .cells #[.int .i64 ((rd_T41 l0 x19_1).f0), .int .i64 ((rd_T41 l0 x19_1).f1), .bool ((rd_T41 l0 x19_1).f2)] 41 (0,0)) (by refine blk_put (cs:=#[.int .i64 ((rd_T41 l0 x19_1).f0), .int .i64 ((rd_T41 l0 x19_1).f1), .bool false]) ?_ 2 _ rfl;refine blk_put (cs:=#[.int .i64 ((rd_T41 l0 x19_1).f0), .int .i64 0, .bool false]) ?_ 1 _ rfl;refine blk_put (cs:=#[.int .i64 0, .int .i64 0, .bool false]) ?_ 0 _ rfl;exact BK278.out) hb);have n2_:=Aside0.mk (below_step (by repeat ((with_reducible first | exact HB.out | refine below_set ?_ GE278.out))) hb);clear HO_8;clear BK278;clear HB;have HO_8:=n0_;have BK278:=n1_;have HB:=n2_;clear n0_ n1_ n2_;(try clear hb);have hcz18_0 : w17.cell? ⟨gb278,0,none⟩ = some (.int .i64 ((rd_T41 l0 x19_1).f0)):=(blk_cell BK278.out 0).trans rfl;have hcz18_1 : w17.cell? ⟨gb278,1,none⟩ = some (.int .i64 ((rd_T41 l0 x19_1).f1)):=(blk_cell BK278.out 1).trans rfl;have hcz18_2 : w17.cell? ⟨gb278,2,none⟩ = some (.bool ((rd_T41 l0 x19_1).f2)):=(blk_cell BK278.out 2).trans rfl;have hfz18_0:=blk_frozen BK278.out 0;have hfz18_1:=blk_frozen BK278.out 1;have hfz18_2:=blk_frozen BK278.out 2) | ((with_reducible refine gate_builtin (b := .append) (xs:=#[.tmp 30, .tmp 33]) rfl ?_);at_builtin;refine Kd.R_append (Kd.int .i64) (w0:=w) w.heap.size rfl (.tmp 30) (.tmp 33) 35 3 (.int .i64 0) 8 rfl Tryd.underlying35 info3 rfl (by decide) (by omega) u8 x8_1 ((rd_T41 l0 x19_1).f0) [.int .i64 ((rd_T41 l0 x19_1).f0)] (fun _ => True) (fun _ => False) rfl rfl ?aP (fun _ hk => hk.elim) ?aF ?aO ?aB ?aS ?aL ?_;(case aP => exact rfl);(case aB => exact (by exact HB.out));(case aF => exact (fun _ _ => trivial));(case aO => exact (by exact HO_8.out));(case aS => exact (below_size (by exact HB.out)));(case aL => have:=LMc14.out;omega);intro v281 w19 ho hb hg hat;rw [← Ny280.out] at ho;have n0_:=Aside0.mk (blk_grown (g:=gb278) (o := .cells #[.int .i64 ((rd_T41 l0 x19_1).f0), .int .i64 ((rd_T41 l0 x19_1).f1), .bool ((rd_T41 l0 x19_1).f2)] 41 (0,0)) (by exact BK278.out) hg (Kd.R_ne HO_8.out BK278.out (by decide)));have n1_:=Aside0.mk (hb);have n2_:=Aside0.mk (ho);clear BK278;clear HB;clear HO_8;have BK278:=n0_;have HB:=n1_;have HO282:=n2_;clear n0_ n1_ n2_;clear ho hb hg hat))
         go_roundg k1
         case measure => have:=HK1.out;omega
         case rel => exact ⟨(y280),(wrap64 (x19_1 + 1)),(by rfl),H',⟨by have:=HK1.out;omega⟩,⟨by exact HO282.out⟩,⟨by exact HB.out⟩⟩
        ·rw [if_neg c14] at H
         exact absurd H (by simp)
       ·rw [if_neg c13] at H
        have c13b0 : decide (a2 < t279) = false:=decide_eq_false c13
        clear c13
        have H':=Aside0.mk H
        clear H
        have p277 : 0 ≤ (x19_1 : Int):=of_decide_eq_true (by (with_reducible assumption))
        have q277 : x19_1 < (l0.length : Int):=of_decide_eq_true (by (with_reducible assumption))
        obtain ⟨ad277,e277,hx277_0,hx277_1,hx277_2⟩ := at_T41 HR0.out x19_1 p277 q277
        cases e277
        replace hx277_0:=(HB.out.cell (World.block_lt_of_cell? w _ hx277_0)).trans hx277_0
        replace hx277_1:=(HB.out.cell (World.block_lt_of_cell? w _ hx277_1)).trans hx277_1
        replace hx277_2:=(HB.out.cell (World.block_lt_of_cell? w _ hx277_2)).trans hx277_2
        replace p277:=eq_true p277
        replace q277:=eq_true q277
        go_wp2_with (first | ((with_reducible refine gate_dst (N:=10) rfl ?_);refine box_event ?hg (N:=10) ?hd (cs:=#[.int .i64 0, .int .i64 0, .bool false]) (t:=41) ?hr ?_;(case hd => rfl);(case hg => rfl);(case hr => (go_simp;done));intro gb278 hg w20 hbox hb;have n0_:=Aside0.mk (Kd.R_below (by exact HO_8.out) hb);have n1_:=Aside0.mk (below_step (by exact HB.out) hb);have n2_:=Aside0.mk (hbox);have n3_:=Aside0.mk ((by rw [hg];exact (below_size (by exact HB.out)) : w.heap.size ≤ gb278));have n4_:=Aside0.mk ((by rw [hg];exact (below_size (by exact HB.out)) : w.heap.size ≤ gb278));clear HO_8;clear HB;have HO_8:=n0_;have HB:=n1_;have BK278:=n2_;have GW278:=n3_;have GE278:=n4_;clear n0_ n1_ n2_ n3_ n4_;clear hb hbox hg;have hcz21_0 : w20.cell? ⟨gb278,0,none⟩ = some (.int .i64 0):=(blk_cell BK278.out 0).trans rfl;have hcz21_1 : w20.cell? ⟨gb278,1,none⟩ = some (.int .i64 0):=(blk_cell BK278.out 1).trans rfl;have hcz21_2 : w20.cell? ⟨gb278,2,none⟩ = some (.bool false):=(blk_cell BK278.out 2).trans rfl;have hfz21_0:=blk_frozen BK278.out 0;have hfz21_1:=blk_frozen BK278.out 1;have hfz21_2:=blk_frozen BK278.out 2) | ((with_reducible refine gate_callee (f:=33) rfl ?_);refine goesL_ (some 27) rfl rfl Tryd.func33 (by kernel_rfl) rfl #[.int .i64 (wrap64 (((rd_T41 l0 x19_1).f1) - a1))] rfl (by (try simp only [List.map_toArray,List.map_cons,List.map_nil]);rfl) ?_;(with_reducible refine (impl_size.calls (wrap64 (((rd_T41 l0 x19_1).f1) - a1)) t279 _ A12.out).mono ?_);rintro e w22 ⟨rfl,hb⟩;refine ⟨_,rfl, ?_⟩;have n0_:=Aside0.mk (Kd.R_below (by exact (Kd.R_mono (Kd.R_far (p:=⟨gb278,2,none⟩) (Kd.R_far (p:=⟨gb278,1,none⟩) (Kd.R_far (p:=⟨gb278,0,none⟩) (Kd.R_types HO_8.out BK278.out (by decide)) (fun _ hk => hk.2) (.int .i64 ((rd_T41 l0 x19_1).f0))) (fun _ hk => hk.2) (.int .i64 ((rd_T41 l0 x19_1).f1))) (fun _ hk => hk.2) (.bool ((rd_T41 l0 x19_1).f2))) (fun _ h_ => h_.1))) hb);have n1_:=Aside0.mk (blk_below (g:=gb278) (o := .cells #[.int .i64 ((rd_T41 l0 x19_1).f0), .int .i64 ((rd_T41 l0 x19_1).f1), .bool ((rd_T41 l0 x19_1).f2)] 41 (0,0)) (by refine blk_put (cs:=#[.int .i64 ((rd_T41 l0 x19_1).f0), .int .i64 ((rd_T41 l0 x19_1).f1), .bool false]) ?_ 2 _ rfl;refine blk_put (cs:=#[.int .i64 ((rd_T41 l0 x19_1).f0), .int .i64 0, .bool false]) ?_ 1 _ rfl;refine blk_put (cs:=#[.int .i64 0, .int .i64 0, .bool false]) ?_ 0 _ rfl;exact BK278.out) hb);have n2_:=Aside0.mk (below_step (by repeat ((with_reducible first | exact HB.out | refine below_set ?_ GE278.out))) hb);clear HO_8;clear BK278;clear HB;have HO_8:=n0_;have BK278:=n1_;have HB:=n2_;clear n0_ n1_ n2_;(try clear hb)))
        go_roundg k1
        case measure => have:=HK1.out;omega
        case rel => exact ⟨(x8_1),(wrap64 (x19_1 + 1)),(by rfl),H',⟨by have:=HK1.out;omega⟩,⟨by exact HO_8.out⟩,⟨by exact HB.out⟩⟩
      ·rw [if_neg c11] at H
       exact absurd H (by simp)
     ·rw [if_neg c10] at H
      exact absurd H (by simp)
    ·rw [if_neg c9] at H
     have c9b0 : decide (x19_1 < (l0.length : Int)) = false:=decide_eq_false c9
     clear c9
     simp only [Option.some.injEq,Prod.mk.injEq] at H
     obtain ⟨rfl,rfl⟩ := H
     go_wp2
     go_ret2
     exact ⟨_,by rfl,by exact HO_8.out,by exact HB.out⟩
 ·replace c5:=Bool.eq_false_iff.mpr c5
  subst c5
  have H1 : (some (([] : List Int),false)) = some (r1,r2):=by rw [if_neg (show ¬ (false = true) by decide)] at H;exact H
  clear H
  have H:=H1
  clear H1
  simp only [Option.some.injEq,Prod.mk.injEq] at H
  obtain ⟨rfl,rfl⟩ := H
  go_enter Tryd.func14,Tryd.ntmps14
  go_wp2_with (((with_reducible refine gate_callee (f:=32) rfl ?_);refine goesL_ (some 14) rfl rfl Tryd.func32 (by kernel_rfl) rfl #[.slice A0 l0.length c0, .int .i64 a1, .int .i64 a2] rfl (by (try simp only [List.map_toArray,List.map_cons,List.map_nil]);rfl) ?_;(with_reducible refine (impl_isSetting.calls k _ _ l0 a1 a2 false _ ?side1 ?side2 A4.out).mono ?_);(case side1 => repeat (exact HR0.out));(case side2 => exact HC0.out);rintro e w23 ⟨rfl,hb⟩;refine ⟨_,rfl, ?_⟩;have n0_:=Aside0.mk (below_step (by exact HB.out) hb);clear HB;have HB:=n0_;clear n0_;(try clear hb)))
  go_ret2
  exact ⟨_,by rfl,by exact Kd.R_nil _ _ _ _ _,by exact HB.out⟩

/-! ### spec_BadReadings: function 15 -/
def spec_BadReadings.l0 : Nat → List (S41) → Int → Int → List Int → Int → Option (List Int × Bool)
 | 0,_,_,_,_,_ => none
 | k + 1,x0,x1,x2,x8,x9 => if x9 < (x0.length : Int) then (if 0 ≤ x9 then ((spec_l21Fine.f ((rd_T41 x0 x9).f0) ((rd_T41 x0 x9).f1) ((rd_T41 x0 x9).f2) x1 x2).bind fun t288 => (if t288 = true then (spec_BadReadings.l0 k x0 x1 x2 x8 (wrap64 (x9 + 1))) else (if x8.length < 17592186044416 then (spec_BadReadings.l0 k x0 x1 x2 (x8 ++ [(rd_T41 x0 x9).f0]) (wrap64 (x9 + 1))) else (none)))) else (none)) else (some (x8,true))
def spec_BadReadings.f (k : Nat) (l0 : List (S41)) (a1 : Int) (a2 : Int) : Option (List Int × Bool):=(some (([] : List Int) : List Int)).bind fun y283 => ((spec_l21Asked.f k l0 a1 a2).bind fun t286 => (if t286 = true then (spec_BadReadings.l0 k l0 a1 a2 y283 0) else (some (y283,false))))
theorem spec_BadReadings.mono_l : ∀ k,(∀ y0 y1 y2 y3 y4,LeO (spec_BadReadings.l0 k y0 y1 y2 y3 y4) (spec_BadReadings.l0 (k + 1) y0 y1 y2 y3 y4))
 | 0 => fun _ _ _ _ _ r h => by simp [spec_BadReadings.l0] at h
 | k + 1 => by
  have ih0:=spec_BadReadings.mono_l k
  ·intro y0 y1 y2 y3 y4
   unfold spec_BadReadings.l0
   repeat' first
   | (with_reducible exact ih0 _ _ _ _ _)
   | (with_reducible exact spec_l21Asked.mono _ _ _ _)
   | (with_reducible exact LeO.refl _)
   | (with_reducible exact LeO.none _)
   | (with_reducible refine LeO.ite ?_ ?_)
   | (with_reducible refine LeO.bind ?_ (fun _ => ?_))
   | exact ih0 _ _ _ _ _
   | exact spec_l21Asked.mono _ _ _ _
   | exact LeO.none _
   | refine LeO.ite ?_ ?_
   | refine LeO.bind ?_ (fun _ => ?_)
theorem spec_BadReadings.mono : ∀ a0 a1 a2 k,LeO (spec_BadReadings.f k a0 a1 a2) (spec_BadReadings.f (k + 1) a0 a1 a2):=by
 intro a0 a1 a2 k
 have ih0:=spec_BadReadings.mono_l k
 unfold spec_BadReadings.f
 repeat' first
   | (with_reducible exact ih0 _ _ _ _ _)
   | (with_reducible exact spec_l21Asked.mono _ _ _ _)
   | (with_reducible exact LeO.refl _)
   | (with_reducible exact LeO.none _)
   | (with_reducible refine LeO.ite ?_ ?_)
   | (with_reducible refine LeO.bind ?_ (fun _ => ?_))
   | exact ih0 _ _ _ _ _
   | exact spec_l21Asked.mono _ _ _ _
   | exact LeO.none _
   | refine LeO.ite ?_ ?_
   | refine LeO.bind ?_ (fun _ => ?_)
set_option maxHeartbeats 8000000 in
set_option maxRecDepth 100000 in
theorem spec_BadReadings.calls (k : Nat) (A0 : Option Addr) (c0 : Nat) (l0 : List (S41)) (a1 : Int) (a2 : Int) (r1 : List Int) (r2 : Bool) (w : World) (hr0 : Kd.C k41 w A0 l0.length l0) (hc0 : l0.length ≤ c0) (h : spec_BadReadings.f k l0 a1 a2 = some (r1,r2)) :
  Calls Tryd.prog 15 #[.slice A0 l0.length c0, .int .i64 a1, .int .i64 a2] w fun e w' => ∃ v0_ : Value,e = .returned (.tuple #[v0_, .bool r2]) ∧ Kd.R (Kd.int .i64) 3 w' w.heap.size (fun _ => True) v0_ r1 ∧ Below w.heap.size w w':=by
 have hu41:=Tryd.underlying41
 have HR0:=Aside0.mk hr0
 have HC0:=Aside0.mk hc0
 clear hr0 hc0
 have HB:=Aside0.mk (Below.refl w.heap.size w)
 have H : ((some (([] : List Int) : List Int)).bind fun y283 => ((spec_l21Asked.f k l0 a1 a2).bind fun t286 => (if t286 = true then (spec_BadReadings.l0 k l0 a1 a2 y283 0) else (some (y283,false))))) = some (r1,r2):=h
 clear h
 obtain ⟨y283,hy283⟩ : ∃ y_ : List Int,y_ = (([] : List Int)):=⟨_,rfl⟩
 replace H : ((spec_l21Asked.f k l0 a1 a2).bind fun t286 => (if t286 = true then (spec_BadReadings.l0 k l0 a1 a2 y283 0) else (some (y283,false)))) = some (r1,r2):=by (have H2_:=(Option.bind_some _ _).symm.trans H;rw [hy283];with_reducible exact H2_)
 have Ny283:=Aside0.mk hy283
 clear hy283
 replace H:=Option.bind_eq_some_iff.mp H
 obtain ⟨t286,A40,H⟩ := H
 replace H : (if t286 = true then (spec_BadReadings.l0 k l0 a1 a2 y283 0) else (some (y283,false))) = some (r1,r2):=H
 have A4:=Aside0.mk A40
 clear A40
 by_cases c5 : t286 = true
 ·subst c5
  have H1 : (spec_BadReadings.l0 k l0 a1 a2 y283 0) = some (r1,r2):=by rw [if_pos rfl] at H;exact H
  clear H
  have H:=H1
  clear H1
  have H':=Aside0.mk H
  clear H
  go_enter Tryd.func15,Tryd.ntmps15
  go_wp2_with (first | ((with_reducible refine gate_dst (N:=10) rfl ?_);refine Kd.R_lit (Kd.int .i64) _ 3 ?hg (N:=10) ?hd (xs:=([] : List Int)) (inner := []) (ok:=fun _ => True) (okp:=fun _ => True) ?hr ?hp (fun _ hk => hk) trivial (Below.refl _ _) (Nat.le_refl _) (by simp) ?_;(case hd => rfl);(case hg => rfl);(case hr => (go_simp;done));(case hp => exact (Reps.none _ _));intro v284 w6 ho7 hb hg_ hnew_;clear hg_ hnew_;(rw [← Ny283.out] at ho7);have n0_:=Aside0.mk (Kd.R_lower ho7 (below_size (by exact HB.out)));have n1_:=Aside0.mk (below_step (by exact HB.out) hb);clear HB;have HO285:=n0_;have HB:=n1_;clear n0_ n1_;clear hb ho7) | ((with_reducible refine gate_callee (f:=34) rfl ?_);refine goesL_ (some 14) rfl rfl Tryd.func34 (by kernel_rfl) rfl #[.slice A0 l0.length c0, .int .i64 a1, .int .i64 a2] rfl (by (try simp only [List.map_toArray,List.map_cons,List.map_nil]);rfl) ?_;(with_reducible refine (spec_l21Asked.calls k _ _ l0 a1 a2 true _ ?side1 ?side2 A4.out).mono ?_);(case side1 => repeat (exact (Kd.C_below HR0.out HB.out)));(case side2 => exact HC0.out);rintro e w8 ⟨rfl,hb⟩;refine ⟨_,rfl, ?_⟩;have n0_:=Aside0.mk (Kd.R_below (by exact HO285.out) hb);have n1_:=Aside0.mk (below_step (by exact HB.out) hb);clear HO285;clear HB;have HO285:=n0_;have HB:=n1_;clear n0_ n1_;(try clear hb)))
  (skip)
  go_loopg [8,9] k (fun kq v8 v9 w' => ∃ (x8_1 : List Int) (x9_1 : Int),v9 = .int .i64 x9_1 ∧ Aside0 (spec_BadReadings.l0 kq l0 a1 a2 x8_1 x9_1 = some (r1,r2)) ∧ Aside0 (kq ≤ k) ∧ Aside0 (Kd.R (Kd.int .i64) 3 w' w.heap.size (fun _ => True) v8 x8_1) ∧ Aside0 (Below w.heap.size w w'))
  case atStart => exact ⟨(y283),(0),(by rfl),H',⟨Nat.le_refl _⟩,⟨by exact HO285.out⟩,⟨by exact HB.out⟩⟩
  case round =>
   clear H'
   try clear c1
   try clear p2
   try clear c3
   try clear c5
   obtain ⟨x8_1,x9_1,rfl,HA,HK1,HO_8,HB⟩ := hrel
   cases gk with
   | zero => exact absurd HA.out (by simp [spec_BadReadings.l0])
   | succ k1 =>
    have H:=HA.out
    clear HA
    simp only [spec_BadReadings.l0] at H
    by_cases c9 : x9_1 < (l0.length : Int)
    ·rw [if_pos c9] at H
     have c9b0 : decide (x9_1 < (l0.length : Int)) = true:=decide_eq_true c9
     clear c9
     by_cases c10 : 0 ≤ x9_1
     ·rw [if_pos c10] at H
      have c10b0 : decide (0 ≤ x9_1) = true:=decide_eq_true c10
      clear c10
      replace H:=Option.bind_eq_some_iff.mp H
      obtain ⟨t288,A110,H⟩ := H
      replace H : (if t288 = true then (spec_BadReadings.l0 k1 l0 a1 a2 x8_1 (wrap64 (x9_1 + 1))) else (if x8_1.length < 17592186044416 then (spec_BadReadings.l0 k1 l0 a1 a2 (x8_1 ++ [(rd_T41 l0 x9_1).f0]) (wrap64 (x9_1 + 1))) else (none))) = some (r1,r2):=H
      have A11:=Aside0.mk A110
      clear A110
      by_cases c12 : t288 = true
      ·subst c12
       have H1 : (spec_BadReadings.l0 k1 l0 a1 a2 x8_1 (wrap64 (x9_1 + 1))) = some (r1,r2):=by rw [if_pos rfl] at H;exact H
       clear H
       have H:=H1
       clear H1
       have H':=Aside0.mk H
       clear H
       have p287 : 0 ≤ (x9_1 : Int):=of_decide_eq_true (by (with_reducible assumption))
       have q287 : x9_1 < (l0.length : Int):=of_decide_eq_true (by (with_reducible assumption))
       obtain ⟨ad287,e287,hx287_0,hx287_1,hx287_2⟩ := at_T41 HR0.out x9_1 p287 q287
       cases e287
       replace hx287_0:=(HB.out.cell (World.block_lt_of_cell? w _ hx287_0)).trans hx287_0
       replace hx287_1:=(HB.out.cell (World.block_lt_of_cell? w _ hx287_1)).trans hx287_1
       replace hx287_2:=(HB.out.cell (World.block_lt_of_cell? w _ hx287_2)).trans hx287_2
       replace p287:=eq_true p287
       replace q287:=eq_true q287
       go_wp2_with (((with_reducible refine gate_callee (f:=35) rfl ?_);refine goesL_ (some 29) rfl rfl Tryd.func35 (by kernel_rfl) rfl #[.agg #[.int .i64 ((rd_T41 l0 x9_1).f0), .int .i64 ((rd_T41 l0 x9_1).f1), .bool ((rd_T41 l0 x9_1).f2)], .int .i64 a1, .int .i64 a2] rfl (by (try simp only [List.map_toArray,List.map_cons,List.map_nil]);rfl) ?_;(with_reducible refine (spec_l21Fine.calls ((rd_T41 l0 x9_1).f0) ((rd_T41 l0 x9_1).f1) ((rd_T41 l0 x9_1).f2) a1 a2 true _ A11.out).mono ?_);rintro e w13 ⟨rfl,hb⟩;refine ⟨_,rfl, ?_⟩;have n0_:=Aside0.mk (Kd.R_below (by exact HO_8.out) hb);have n1_:=Aside0.mk (below_step (by exact HB.out) hb);clear HO_8;clear HB;have HO_8:=n0_;have HB:=n1_;clear n0_ n1_;(try clear hb)))
       go_roundg k1
       case measure => have:=HK1.out;omega
       case rel => exact ⟨(x8_1),(wrap64 (x9_1 + 1)),(by rfl),H',⟨by have:=HK1.out;omega⟩,⟨by exact HO_8.out⟩,⟨by exact HB.out⟩⟩
      ·replace c12:=Bool.eq_false_iff.mpr c12
       subst c12
       have H1 : (if x8_1.length < 17592186044416 then (spec_BadReadings.l0 k1 l0 a1 a2 (x8_1 ++ [(rd_T41 l0 x9_1).f0]) (wrap64 (x9_1 + 1))) else (none)) = some (r1,r2):=by rw [if_neg (show ¬ (false = true) by decide)] at H;exact H
       clear H
       have H:=H1
       clear H1
       by_cases c14 : x8_1.length < 17592186044416
       ·rw [if_pos c14] at H
        have LMc14:=Aside0.mk c14
        clear c14
        obtain ⟨y290,hy290⟩ : ∃ y_ : List Int,y_ = (x8_1 ++ [(rd_T41 l0 x9_1).f0]):=⟨_,rfl⟩
        replace H : (spec_BadReadings.l0 k1 l0 a1 a2 y290 (wrap64 (x9_1 + 1))) = some (r1,r2):=by (rw [hy290];with_reducible exact H)
        have Ny290:=Aside0.mk hy290
        clear hy290
        have H':=Aside0.mk H
        clear H
        have p287 : 0 ≤ (x9_1 : Int):=of_decide_eq_true (by (with_reducible assumption))
        have q287 : x9_1 < (l0.length : Int):=of_decide_eq_true (by (with_reducible assumption))
        obtain ⟨ad287,e287,hx287_0,hx287_1,hx287_2⟩ := at_T41 HR0.out x9_1 p287 q287
        cases e287
        replace hx287_0:=(HB.out.cell (World.block_lt_of_cell? w _ hx287_0)).trans hx287_0
        replace hx287_1:=(HB.out.cell (World.block_lt_of_cell? w _ hx287_1)).trans hx287_1
        replace hx287_2:=(HB.out.cell (World.block_lt_of_cell? w _ hx287_2)).trans hx287_2
        replace p287:=eq_true p287
        replace q287:=eq_true q287
        go_wp2_with (first | ((with_reducible refine gate_callee (f:=35) rfl ?_);refine goesL_ (some 29) rfl rfl Tryd.func35 (by kernel_rfl) rfl #[.agg #[.int .i64 ((rd_T41 l0 x9_1).f0), .int .i64 ((rd_T41 l0 x9_1).f1), .bool ((rd_T41 l0 x9_1).f2)], .int .i64 a1, .int .i64 a2] rfl (by (try simp only [List.map_toArray,List.map_cons,List.map_nil]);rfl) ?_;(with_reducible refine (spec_l21Fine.calls ((rd_T41 l0 x9_1).f0) ((rd_T41 l0 x9_1).f1) ((rd_T41 l0 x9_1).f2) a1 a2 false _ A11.out).mono ?_);rintro e w15 ⟨rfl,hb⟩;refine ⟨_,rfl, ?_⟩;have n0_:=Aside0.mk (Kd.R_below (by exact HO_8.out) hb);have n1_:=Aside0.mk (below_step (by exact HB.out) hb);clear HO_8;clear HB;have HO_8:=n0_;have HB:=n1_;clear n0_ n1_;(try clear hb);have p289 : 0 ≤ (x9_1 : Int):=of_decide_eq_true (by (with_reducible assumption));have q289 : x9_1 < (l0.length : Int):=of_decide_eq_true (by (with_reducible assumption));obtain ⟨ad289,e289,hx289_0,hx289_1,hx289_2⟩ := at_T41 HR0.out x9_1 p289 q289;obtain rfl : ad287 = ad289:=(by injection e289);replace hx289_0:=(HB.out.cell (World.block_lt_of_cell? w _ hx289_0)).trans hx289_0;replace hx289_1:=(HB.out.cell (World.block_lt_of_cell? w _ hx289_1)).trans hx289_1;replace hx289_2:=(HB.out.cell (World.block_lt_of_cell? w _ hx289_2)).trans hx289_2;replace p289:=eq_true p289;replace q289:=eq_true q289) | ((with_reducible refine gate_builtin (b := .append) (xs:=#[.tmp 31, .tmp 37]) rfl ?_);at_builtin;refine Kd.R_append (Kd.int .i64) (w0:=w) w.heap.size rfl (.tmp 31) (.tmp 37) 35 3 (.int .i64 0) 8 rfl Tryd.underlying35 info3 rfl (by decide) (by omega) u8 x8_1 ((rd_T41 l0 x9_1).f0) [.int .i64 ((rd_T41 l0 x9_1).f0)] (fun _ => True) (fun _ => False) rfl rfl ?aP (fun _ hk => hk.elim) ?aF ?aO ?aB ?aS ?aL ?_;(case aP => exact rfl);(case aB => exact (by exact HB.out));(case aF => exact (fun _ _ => trivial));(case aO => exact (by exact HO_8.out));(case aS => exact (below_size (by exact HB.out)));(case aL => have:=LMc14.out;omega);intro v291 w16 ho hb hg hat;rw [← Ny290.out] at ho;have n0_:=Aside0.mk (hb);have n1_:=Aside0.mk (ho);clear HB;clear HO_8;have HB:=n0_;have HO292:=n1_;clear n0_ n1_;clear ho hb hg hat))
        go_roundg k1
        case measure => have:=HK1.out;omega
        case rel => exact ⟨(y290),(wrap64 (x9_1 + 1)),(by rfl),H',⟨by have:=HK1.out;omega⟩,⟨by exact HO292.out⟩,⟨by exact HB.out⟩⟩
       ·rw [if_neg c14] at H
        exact absurd H (by simp)
     ·rw [if_neg c10] at H
      exact absurd H (by simp)
    ·rw [if_neg c9] at H
     have c9b0 : decide (x9_1 < (l0.length : Int)) = false:=decide_eq_false c9
     clear c9
     simp only [Option.some.injEq,Prod.mk.injEq] at H
     obtain ⟨rfl,rfl⟩ := H
     go_wp2
     go_ret2
     exact ⟨_,by rfl,by exact HO_8.out,by exact HB.out⟩
 ·replace c5:=Bool.eq_false_iff.mpr c5
  subst c5
  have H1 : (some (y283,false)) = some (r1,r2):=by rw [if_neg (show ¬ (false = true) by decide)] at H;exact H
  clear H
  have H:=H1
  clear H1
  simp only [Option.some.injEq,Prod.mk.injEq] at H
  obtain ⟨rfl,rfl⟩ := H
  go_enter Tryd.func15,Tryd.ntmps15
  go_wp2_with (first | ((with_reducible refine gate_dst (N:=10) rfl ?_);refine Kd.R_lit (Kd.int .i64) _ 3 ?hg (N:=10) ?hd (xs:=([] : List Int)) (inner := []) (ok:=fun _ => True) (okp:=fun _ => True) ?hr ?hp (fun _ hk => hk) trivial (Below.refl _ _) (Nat.le_refl _) (by simp) ?_;(case hd => rfl);(case hg => rfl);(case hr => (go_simp;done));(case hp => exact (Reps.none _ _));intro v284 w17 ho18 hb hg_ hnew_;clear hg_ hnew_;(rw [← Ny283.out] at ho18);have n0_:=Aside0.mk (Kd.R_lower ho18 (below_size (by exact HB.out)));have n1_:=Aside0.mk (below_step (by exact HB.out) hb);clear HB;have HO285:=n0_;have HB:=n1_;clear n0_ n1_;clear hb ho18) | ((with_reducible refine gate_callee (f:=34) rfl ?_);refine goesL_ (some 14) rfl rfl Tryd.func34 (by kernel_rfl) rfl #[.slice A0 l0.length c0, .int .i64 a1, .int .i64 a2] rfl (by (try simp only [List.map_toArray,List.map_cons,List.map_nil]);rfl) ?_;(with_reducible refine (spec_l21Asked.calls k _ _ l0 a1 a2 false _ ?side1 ?side2 A4.out).mono ?_);(case side1 => repeat (exact (Kd.C_below HR0.out HB.out)));(case side2 => exact HC0.out);rintro e w19 ⟨rfl,hb⟩;refine ⟨_,rfl, ?_⟩;have n0_:=Aside0.mk (Kd.R_below (by exact HO285.out) hb);have n1_:=Aside0.mk (below_step (by exact HB.out) hb);clear HO285;clear HB;have HO285:=n0_;have HB:=n1_;clear n0_ n1_;(try clear hb)))
  go_ret2
  exact ⟨_,by rfl,by exact HO285.out,by exact HB.out⟩

end Go.Proofs.YtpelcaijjdgnoaaDoor.PFnReadings
