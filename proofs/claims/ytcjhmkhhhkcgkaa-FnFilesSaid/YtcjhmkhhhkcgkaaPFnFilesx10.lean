-- Written by a program of this session, over the kit's print (wip/xprint.py)
import Derived.Test.YtcjhmkhhhkcgkaaPFnFilesx0
import Derived.Test.YtcjhmkhhhkcgkaaPFnFilesx1
import Derived.Test.YtcjhmkhhhkcgkaaPFnFilesx2
import Derived.Test.YtcjhmkhhhkcgkaaPFnFilesx3
import Derived.Test.YtcjhmkhhhkcgkaaPFnFilesx4
import Derived.Test.YtcjhmkhhhkcgkaaPFnFilesx5
import Derived.Test.YtcjhmkhhhkcgkaaPFnFilesx6
import Derived.Test.YtcjhmkhhhkcgkaaPFnFilesx8
namespace Go.Proofs.Ytcjhmkhhhkcgkaa.PFnFiles
open Go.RowKit Go.Proofs.YtcjhmkhhhkcgkaaW.PrintWords Go.Proofs.YtcjhmkhhhkcgkaaW.PrintLast Go.Proofs.YtcjhmkhhhkcgkaaW.PrintMore
attribute [local go_sem] max2_int min2_int max_two min_two max_three min_three max_four min_four   -- for this text's walks alone
set_option linter.unusedVariables false
set_option linter.unusedSimpArgs false

attribute [local go_sem high] eqA26
/-! ### laws_rFiles: function 8 -/
def laws_rFiles.l0 : Nat → List (S26) → List (S26) → Int → Option (Bool)
 | 0,_,_,_ => none
 | k + 1,x0,x1,x5 => if x5 < (x0.length : Int) then (if 0 ≤ x5 then (if x5 < (x1.length : Int) then (if (!(((rd_T26 x0 x5).f0) == ((rd_T26 x1 x5).f0)) || (!((((rd_T26 x0 x5).f1).toList) == (((rd_T26 x1 x5).f1).toList)) || (!(((rd_T26 x0 x5).f2) == ((rd_T26 x1 x5).f2)) || (!(((rd_T26 x0 x5).f3) == ((rd_T26 x1 x5).f3)))))) = true then (some false) else (laws_rFiles.l0 k x0 x1 (wrap64 (x5 + 1)))) else (none)) else (none)) else (some true)
def laws_rFiles.f (k : Nat) (l0 : List (S26)) (l1 : List (S26)) : Option (Bool):=if (l0.length : Int) = (l1.length : Int) then (laws_rFiles.l0 k l0 l1 0) else (some false)
theorem laws_rFiles.mono_l : ∀ k,(∀ y0 y1 y2,LeO (laws_rFiles.l0 k y0 y1 y2) (laws_rFiles.l0 (k + 1) y0 y1 y2))
 | 0 => fun _ _ _ r h => by simp [laws_rFiles.l0] at h
 | k + 1 => by
  have ih0:=laws_rFiles.mono_l k
  ·intro y0 y1 y2
   unfold laws_rFiles.l0
   repeat' first
   | (with_reducible exact ih0 _ _ _)
   | (with_reducible exact LeO.refl _)
   | (with_reducible exact LeO.none _)
   | (with_reducible refine LeO.ite ?_ ?_)
   | (with_reducible refine LeO.bind ?_ (fun _ => ?_))
   | exact ih0 _ _ _
   | exact LeO.none _
   | refine LeO.ite ?_ ?_
   | refine LeO.bind ?_ (fun _ => ?_)
theorem laws_rFiles.mono : ∀ a0 a1 k,LeO (laws_rFiles.f k a0 a1) (laws_rFiles.f (k + 1) a0 a1):=by
 intro a0 a1 k
 have ih0:=laws_rFiles.mono_l k
 unfold laws_rFiles.f
 repeat' first
   | (with_reducible exact ih0 _ _ _)
   | (with_reducible exact LeO.refl _)
   | (with_reducible exact LeO.none _)
   | (with_reducible refine LeO.ite ?_ ?_)
   | (with_reducible refine LeO.bind ?_ (fun _ => ?_))
   | exact ih0 _ _ _
   | exact LeO.none _
   | refine LeO.ite ?_ ?_
   | refine LeO.bind ?_ (fun _ => ?_)
set_option maxHeartbeats 8000000 in
set_option maxRecDepth 100000 in
theorem laws_rFiles.calls (k : Nat) (A0 : Option Addr) (c0 : Nat) (l0 : List (S26)) (A1 : Option Addr) (c1 : Nat) (l1 : List (S26)) (r : Bool) (w : World) (hr0 : Kd.C k26 w A0 l0.length l0) (hc0 : l0.length ≤ c0) (hr1 : Kd.C k26 w A1 l1.length l1) (hc1 : l1.length ≤ c1) (h : laws_rFiles.f k l0 l1 = some r) :
  Calls Try.prog 8 #[.slice A0 l0.length c0, .slice A1 l1.length c1] w fun e w' => e = .returned (.bool r) ∧ Drawn0 w w':=by
 have hu26:=Try.underlying26
 have HR0:=Aside0.mk hr0
 have HC0:=Aside0.mk hc0
 clear hr0 hc0
 have HR1:=Aside0.mk hr1
 have HC1:=Aside0.mk hc1
 clear hr1 hc1
 have H : (if (l0.length : Int) = (l1.length : Int) then (laws_rFiles.l0 k l0 l1 0) else (some false)) = some r:=h
 clear h
 by_cases c3 : (l0.length : Int) = (l1.length : Int)
 ·rw [if_pos c3] at H
  have c3b0 : ((l0.length : Int) == (l1.length : Int)) = true:=beq_iff_eq.mpr c3
  have c3b1 : ((l0.length : Int) != (l1.length : Int)) = false:=bne_eq_false_iff_eq.mpr c3
  have c3b2 : (l0.length == l1.length) = true:=by (simp at c3 ⊢;omega)
  clear c3
  have H':=Aside0.mk H
  clear H
  go_enter Try.func8,Try.ntmps8
  go_wp2
  repeat (go_quiet (fail);try go_wp2)
  (skip)
  go_loopg [5] k (fun kq v5 w' => ∃ (x5_1 : Int),v5 = .int .i64 x5_1 ∧ Aside0 (laws_rFiles.l0 kq l0 l1 x5_1 = some r) ∧ Aside0 (kq ≤ k) ∧ Drawn0 w w')
  case atStart => exact ⟨(0),(by rfl),H',⟨Nat.le_refl _⟩,by repeat (exact Drawn0.refl _)⟩
  case round =>
   clear H'
   try clear c1
   try clear p2
   try clear c3
   try clear c3b0
   try clear c3b1
   try clear c3b2
   obtain ⟨x5_1,rfl,HA,HK1,⟨m1,rfl⟩⟩ := hrel
   cases gk with
   | zero => exact absurd HA.out (by simp [laws_rFiles.l0])
   | succ k1 =>
    have H:=HA.out
    clear HA
    simp only [laws_rFiles.l0] at H
    by_cases c4 : x5_1 < (l0.length : Int)
    ·rw [if_pos c4] at H
     have c4b0 : decide (x5_1 < (l0.length : Int)) = true:=decide_eq_true c4
     clear c4
     by_cases c5 : 0 ≤ x5_1
     ·rw [if_pos c5] at H
      have c5b0 : decide (0 ≤ x5_1) = true:=decide_eq_true c5
      clear c5
      by_cases c6 : x5_1 < (l1.length : Int)
      ·rw [if_pos c6] at H
       have c6b0 : decide (x5_1 < (l1.length : Int)) = true:=decide_eq_true c6
       clear c6
       by_cases c7 : (!(((rd_T26 l0 x5_1).f0) == ((rd_T26 l1 x5_1).f0)) || (!((((rd_T26 l0 x5_1).f1).toList) == (((rd_T26 l1 x5_1).f1).toList)) || (!(((rd_T26 l0 x5_1).f2) == ((rd_T26 l1 x5_1).f2)) || (!(((rd_T26 l0 x5_1).f3) == ((rd_T26 l1 x5_1).f3)))))) = true
       ·rw [if_pos c7] at H
        have c7b0 : (!(((rd_T26 l0 x5_1).f0) == ((rd_T26 l1 x5_1).f0)) || (!((((rd_T26 l0 x5_1).f1).toList) == (((rd_T26 l1 x5_1).f1).toList)) || (!(((rd_T26 l0 x5_1).f2) == ((rd_T26 l1 x5_1).f2)) || (!(((rd_T26 l0 x5_1).f3) == ((rd_T26 l1 x5_1).f3)))))) = true:=c7
        clear c7
        obtain rfl:=Option.some.inj H
        have p340 : 0 ≤ (x5_1 : Int):=of_decide_eq_true (by (with_reducible assumption))
        have q340 : x5_1 < (l0.length : Int):=of_decide_eq_true (by (with_reducible assumption))
        obtain ⟨ad340,e340,hx340_0,hx340_1,hx340_2,hx340_3⟩ := at_T26 HR0.out x5_1 p340 q340
        cases e340
        replace p340:=eq_true p340
        replace q340:=eq_true q340
        have p341 : 0 ≤ (x5_1 : Int):=of_decide_eq_true (by (with_reducible assumption))
        have q341 : x5_1 < (l1.length : Int):=of_decide_eq_true (by (with_reducible assumption))
        obtain ⟨ad341,e341,hx341_0,hx341_1,hx341_2,hx341_3⟩ := at_T26 HR1.out x5_1 p341 q341
        cases e341
        replace p341:=eq_true p341
        replace q341:=eq_true q341
        go_wp2
        repeat (go_quiet (fail);try go_wp2)
        go_ret
        exact ⟨by rfl,by repeat (first | exact Drawn0.refl _ | apply Drawn0.step)⟩
       ·rw [if_neg c7] at H
        have c7b0 : (!(((rd_T26 l0 x5_1).f0) == ((rd_T26 l1 x5_1).f0)) || (!((((rd_T26 l0 x5_1).f1).toList) == (((rd_T26 l1 x5_1).f1).toList)) || (!(((rd_T26 l0 x5_1).f2) == ((rd_T26 l1 x5_1).f2)) || (!(((rd_T26 l0 x5_1).f3) == ((rd_T26 l1 x5_1).f3)))))) = false:=by simpa using c7
        clear c7
        have H':=Aside0.mk H
        clear H
        have p340 : 0 ≤ (x5_1 : Int):=of_decide_eq_true (by (with_reducible assumption))
        have q340 : x5_1 < (l0.length : Int):=of_decide_eq_true (by (with_reducible assumption))
        obtain ⟨ad340,e340,hx340_0,hx340_1,hx340_2,hx340_3⟩ := at_T26 HR0.out x5_1 p340 q340
        cases e340
        replace p340:=eq_true p340
        replace q340:=eq_true q340
        have p341 : 0 ≤ (x5_1 : Int):=of_decide_eq_true (by (with_reducible assumption))
        have q341 : x5_1 < (l1.length : Int):=of_decide_eq_true (by (with_reducible assumption))
        obtain ⟨ad341,e341,hx341_0,hx341_1,hx341_2,hx341_3⟩ := at_T26 HR1.out x5_1 p341 q341
        cases e341
        replace p341:=eq_true p341
        replace q341:=eq_true q341
        go_wp2
        repeat (go_quiet (fail);try go_wp2)
        go_roundg k1
        case measure => have:=HK1.out;omega
        case rel => exact ⟨(wrap64 (x5_1 + 1)),(by rfl),H',⟨by have:=HK1.out;omega⟩,by repeat (first | exact Drawn0.refl _ | apply Drawn0.step)⟩
      ·rw [if_neg c6] at H
       exact absurd H (by simp)
     ·rw [if_neg c5] at H
      exact absurd H (by simp)
    ·rw [if_neg c4] at H
     have c4b0 : decide (x5_1 < (l0.length : Int)) = false:=decide_eq_false c4
     clear c4
     obtain rfl:=Option.some.inj H
     go_wp2
     repeat (go_quiet (fail);try go_wp2)
     go_ret
     exact ⟨by rfl,by repeat (first | exact Drawn0.refl _ | apply Drawn0.step)⟩
 ·rw [if_neg c3] at H
  have c3b0 : ((l0.length : Int) == (l1.length : Int)) = false:=beq_eq_false_iff_ne.mpr c3
  have c3b1 : ((l0.length : Int) != (l1.length : Int)) = true:=bne_iff_ne.mpr c3
  have c3b2 : (l0.length == l1.length) = false:=by (simp at c3 ⊢;omega)
  obtain rfl:=Option.some.inj H
  go_enter Try.func8,Try.ntmps8
  go_wp2
  repeat (go_quiet (fail);try go_wp2)
  go_ret
  exact ⟨by rfl,by repeat (exact Drawn0.refl _)⟩

/-! ### spec_DrawFirstConflict: function 9 -/
def spec_DrawFirstConflict.f (k : Nat) (l0 : List Int) : Option ((List (S26))):=(spec_l1Cur_file.f k l0 0 0).bind fun bt343 => (if (bt343.1.length : Int) > 0 then ((spec_l1Cur_one.f l0 bt343.2.1 bt343.2.2 2).bind fun bt348 => (if bt348.1 = true then ((spec_l1Cur_pick.f l0 bt348.2.1 bt348.2.2 (bt343.1.length : Int)).bind fun bt351 => (if 0 ≤ bt351.1 then (if bt351.1 < (bt343.1.length : Int) then (some (bt343.1.set (bt351.1 : Int).toNat (⟨(rd_T26 bt343.1 bt351.1).f0,(rd_T26 bt343.1 bt351.1).f1,!((rd_T26 bt343.1 bt351.1).f2),(rd_T26 bt343.1 bt351.1).f3⟩ : S26))) else (none)) else (none))) else (some bt343.1))) else (some bt343.1))
theorem spec_DrawFirstConflict.mono : ∀ a0 k,LeO (spec_DrawFirstConflict.f k a0) (spec_DrawFirstConflict.f (k + 1) a0):=by
 intro a0 k
 unfold spec_DrawFirstConflict.f
 repeat' first
   | (with_reducible exact spec_l1Cur_file.mono _ _ _ _)
   | (with_reducible exact LeO.refl _)
   | (with_reducible exact LeO.none _)
   | (with_reducible refine LeO.ite ?_ ?_)
   | (with_reducible refine LeO.bind ?_ (fun _ => ?_))
   | exact spec_l1Cur_file.mono _ _ _ _
   | exact LeO.none _
   | refine LeO.ite ?_ ?_
   | refine LeO.bind ?_ (fun _ => ?_)
set_option maxHeartbeats 8000000 in
set_option maxRecDepth 100000 in
theorem spec_DrawFirstConflict.calls (k : Nat) (A0 : Option Addr) (c0 : Nat) (l0 : List Int) (r : List (S26)) (w : World) (hr0 : Kd.C (Kd.int .u8) w A0 l0.length l0) (hc0 : l0.length ≤ c0) (h : spec_DrawFirstConflict.f k l0 = some r) :
  Calls Try.prog 9 #[.slice A0 l0.length c0] w fun e w' => ∃ v0_ : Value,e = .returned (v0_) ∧ Kd.Q k26 26 w' w.heap.size (fun _ => True) v0_ r ∧ Below w.heap.size w w':=by
 have hu44:=Try.underlying44
 have hu26:=Try.underlying26
 have HR0:=Aside0.mk hr0
 have HC0:=Aside0.mk hc0
 clear hr0 hc0
 have HB:=Aside0.mk (Below.refl w.heap.size w)
 have H : ((spec_l1Cur_file.f k l0 0 0).bind fun bt343 => (if (bt343.1.length : Int) > 0 then ((spec_l1Cur_one.f l0 bt343.2.1 bt343.2.2 2).bind fun bt348 => (if bt348.1 = true then ((spec_l1Cur_pick.f l0 bt348.2.1 bt348.2.2 (bt343.1.length : Int)).bind fun bt351 => (if 0 ≤ bt351.1 then (if bt351.1 < (bt343.1.length : Int) then (some (bt343.1.set (bt351.1 : Int).toNat (⟨(rd_T26 bt343.1 bt351.1).f0,(rd_T26 bt343.1 bt351.1).f1,!((rd_T26 bt343.1 bt351.1).f2),(rd_T26 bt343.1 bt351.1).f3⟩ : S26))) else (none)) else (none))) else (some bt343.1))) else (some bt343.1))) = some r:=h
 clear h
 replace H:=Option.bind_eq_some_iff.mp H
 obtain ⟨⟨t343,t346,t347⟩,A20,H⟩ := H
 replace H : (if (t343.length : Int) > 0 then ((spec_l1Cur_one.f l0 t346 t347 2).bind fun bt348 => (if bt348.1 = true then ((spec_l1Cur_pick.f l0 bt348.2.1 bt348.2.2 (t343.length : Int)).bind fun bt351 => (if 0 ≤ bt351.1 then (if bt351.1 < (t343.length : Int) then (some (t343.set (bt351.1 : Int).toNat (⟨(rd_T26 t343 bt351.1).f0,(rd_T26 t343 bt351.1).f1,!((rd_T26 t343 bt351.1).f2),(rd_T26 t343 bt351.1).f3⟩ : S26))) else (none)) else (none))) else (some t343))) else (some t343)) = some r:=H
 have A2:=Aside0.mk A20
 clear A20
 by_cases c3 : (t343.length : Int) > 0
 ·rw [if_pos c3] at H
  have c3b0 : decide (0 < (t343.length : Int)) = true:=decide_eq_true c3
  have c3b1 : decide (0 < t343.length) = true:=decide_eq_true (by omega)
  clear c3
  replace H:=Option.bind_eq_some_iff.mp H
  obtain ⟨⟨t348,t349,t350⟩,A40,H⟩ := H
  replace H : (if t348 = true then ((spec_l1Cur_pick.f l0 t349 t350 (t343.length : Int)).bind fun bt351 => (if 0 ≤ bt351.1 then (if bt351.1 < (t343.length : Int) then (some (t343.set (bt351.1 : Int).toNat (⟨(rd_T26 t343 bt351.1).f0,(rd_T26 t343 bt351.1).f1,!((rd_T26 t343 bt351.1).f2),(rd_T26 t343 bt351.1).f3⟩ : S26))) else (none)) else (none))) else (some t343)) = some r:=H
  have A4:=Aside0.mk A40
  clear A40
  by_cases c5 : t348 = true
  ·subst c5
   have H1 : ((spec_l1Cur_pick.f l0 t349 t350 (t343.length : Int)).bind fun bt351 => (if 0 ≤ bt351.1 then (if bt351.1 < (t343.length : Int) then (some (t343.set (bt351.1 : Int).toNat (⟨(rd_T26 t343 bt351.1).f0,(rd_T26 t343 bt351.1).f1,!((rd_T26 t343 bt351.1).f2),(rd_T26 t343 bt351.1).f3⟩ : S26))) else (none)) else (none))) = some r:=by rw [if_pos rfl] at H;exact H
   clear H
   have H:=H1
   clear H1
   replace H:=Option.bind_eq_some_iff.mp H
   obtain ⟨⟨t351,t352,t353⟩,A60,H⟩ := H
   replace H : (if 0 ≤ t351 then (if t351 < (t343.length : Int) then (some (t343.set (t351 : Int).toNat (⟨(rd_T26 t343 t351).f0,(rd_T26 t343 t351).f1,!((rd_T26 t343 t351).f2),(rd_T26 t343 t351).f3⟩ : S26))) else (none)) else (none)) = some r:=H
   have A6:=Aside0.mk A60
   clear A60
   by_cases c7 : 0 ≤ t351
   ·rw [if_pos c7] at H
    have c7b0 : decide (0 ≤ t351) = true:=decide_eq_true c7
    clear c7
    by_cases c8 : t351 < (t343.length : Int)
    ·rw [if_pos c8] at H
     have c8b0 : decide (t351 < (t343.length : Int)) = true:=decide_eq_true c8
     clear c8
     obtain ⟨y356,hy356⟩ : ∃ y_ : List (S26),y_ = (t343.set (t351 : Int).toNat (⟨(rd_T26 t343 t351).f0,(rd_T26 t343 t351).f1,!((rd_T26 t343 t351).f2),(rd_T26 t343 t351).f3⟩ : S26)):=⟨_,rfl⟩
     replace H : (some y356) = some r:=by (rw [hy356];with_reducible exact H)
     have Ny356:=Aside0.mk hy356
     clear hy356
     obtain rfl:=Option.some.inj H
     go_enter Try.func9,Try.ntmps9
     go_wp2_with (first | ((with_reducible refine gate_dst (N:=9) rfl ?_);refine box_event ?hg (N:=9) ?hd (cs:=#[.slice A0 l0.length c0, .int .i64 0, .int .u64 0]) (t:=44) ?hr ?_;(case hd => rfl);(case hg => rfl);(case hr => (go_simp;done));intro gb342 hg w10 hbox hb;have n0_:=Aside0.mk (below_step (by exact HB.out) hb);have n1_:=Aside0.mk ((show IsS44 w _ gb342 l0 0 0 from ⟨_,_,hbox,(by rw [hg];exact (below_size (by exact HB.out)) : w.heap.size ≤ gb342),HR0.out⟩));clear HB;have HB:=n0_;have HI342:=n1_;clear n0_ n1_;clear hb hbox hg) | ((with_reducible refine gate_callee (f:=19) rfl ?_);refine goesL_ (some 11) rfl rfl Try.func19 (by kernel_rfl) rfl #[.pointer (some ⟨gb342,0,none⟩)] rfl (by (try simp only [List.map_toArray,List.map_cons,List.map_nil]);rfl) ?_;(with_reducible refine (spec_l1Cur_file.calls k gb342 l0 0 0 t343 t346 t347 w _ ?side1 ?side2 A2.out).mono ?_);(case side1 => exact HI342.out);(case side2 => exact HB.out);rintro e w11 ⟨v344,rfl,ho0,hi,hb,hk⟩;refine ⟨_,rfl, ?_⟩;have n0_:=Aside0.mk (Kd.Q_lower ho0 (below_size (by exact HB.out)));have n1_:=Aside0.mk (hb);have n2_:=Aside0.mk (hi);clear HB;clear HI342;have HO345:=n0_;have HB:=n1_;have HI342:=n2_;clear n0_ n1_ n2_;(try clear hb);(try clear hk);(try clear hi);(try clear ho0);obtain ⟨Ao12,co12,eo12,_⟩ := Kd.Q_slice HO345.out;subst eo12) | (go_at_call 22;(with_reducible refine (spec_l1Cur_one.calls gb342 l0 t346 t347 2 true t349 t350 w _ ?side1 ?side2 A4.out).mono ?_);(case side1 => exact HI342.out);(case side2 => exact HB.out);rintro e w13 ⟨rfl,hi,hb,hk⟩;have n0_:=Aside0.mk (Kd.Q_mono (Kd.Q_keep (IsS44.apartQ (show IsS44 w _ gb342 l0 t346 t347 from by exact HI342.out) (by exact HO345.out) (by decide)) hk (fun _ h => h.2)) (fun _ h => h.1));have n1_:=Aside0.mk (hb);have n2_:=Aside0.mk (hi);clear HO345;clear HB;clear HI342;have HO345:=n0_;have HB:=n1_;have HI342:=n2_;clear n0_ n1_ n2_;(try clear hb);(try clear hk);(try clear hi)) | ((with_reducible refine gate_callee (f:=26) rfl ?_);refine goesL_ (some 22) rfl rfl Try.func26 (by kernel_rfl) rfl #[.pointer (some ⟨gb342,0,none⟩), .int .i64 (t343.length : Int)] rfl (by (try simp only [List.map_toArray,List.map_cons,List.map_nil]);rfl) ?_;(with_reducible refine (spec_l1Cur_pick.calls gb342 l0 t349 t350 (t343.length : Int) t351 t352 t353 w _ ?side1 ?side2 A6.out).mono ?_);(case side1 => exact HI342.out);(case side2 => exact HB.out);rintro e w14 ⟨rfl,hi,hb,hk⟩;refine ⟨_,rfl, ?_⟩;have n0_:=Aside0.mk (Kd.Q_mono (Kd.Q_keep (IsS44.apartQ (show IsS44 w _ gb342 l0 t349 t350 from by exact HI342.out) (by exact HO345.out) (by decide)) hk (fun _ h => h.2)) (fun _ h => h.1));have n1_:=Aside0.mk (hb);have n2_:=Aside0.mk (hi);clear HO345;clear HB;clear HI342;have HO345:=n0_;have HB:=n1_;have HI342:=n2_;clear n0_ n1_ n2_;(try clear hb);(try clear hk);(try clear hi);have p354 : 0 ≤ (t351 : Int):=of_decide_eq_true (by (with_reducible assumption));have q354 : t351 < (t343.length : Int):=of_decide_eq_true (by (with_reducible assumption));obtain ⟨ad354,e354,hx354_0,hx354_1,hx354_2,hx354_3⟩ := at_T26 (Kd.Q_reads' HO345.out).2.2 t351 p354 q354;cases e354;replace p354:=eq_true p354;replace q354:=eq_true q354) | ((with_reducible refine gate_dst (N:=6) rfl ?_);refine box_event ?hg (N:=6) ?hd (cs:=#[.int .i64 0, .string (⟨#[]⟩ : ByteArray), .bool false, .int .i64 0]) (t:=26) ?hr ?_;(case hd => rfl);(case hg => rfl);(case hr => (go_simp;done));intro gb355 hg w15 hbox hb;have n0_:=Aside0.mk (Kd.Q_below (Kd.Q_elderB (by exact HO345.out) gb355 (Nat.le_of_eq hg.symm)) hb);have n1_:=Aside0.mk (IsS44.below (by exact HI342.out) hb);have n2_:=Aside0.mk (below_step (by exact HB.out) hb);have n3_:=Aside0.mk (hbox);have n4_:=Aside0.mk ((by rw [hg];exact (below_size (by exact HB.out)) : w.heap.size ≤ gb355));have n5_:=Aside0.mk ((by rw [hg];exact (below_size (by exact HB.out)) : w.heap.size ≤ gb355));have n6_:=Aside0.mk ((by rw [hg];exact Nat.ne_of_lt (IsS44.lt (show IsS44 w _ gb342 l0 t352 t353 from by exact HI342.out)) : gb342 ≠ gb355));have n7_:=Aside0.mk ((by rw [hg];exact Nat.ne_of_gt (IsS44.lt (show IsS44 w _ gb342 l0 t352 t353 from by exact HI342.out)) : gb355 ≠ gb342));clear HO345;clear HI342;clear HB;have HO345:=n0_;have HI342:=n1_;have HB:=n2_;have BK355:=n3_;have GW355:=n4_;have GE355:=n5_;have NB342_355:=n6_;have NB355_342:=n7_;clear n0_ n1_ n2_ n3_ n4_ n5_ n6_ n7_;clear hb hbox hg;have hnb16:=NB355_342.out;have hnc16:=NB342_355.out;have hcz17_0 : w15.cell? ⟨gb355,0,none⟩ = some (.int .i64 0):=(blk_cell BK355.out 0).trans rfl;have hcz17_1 : w15.cell? ⟨gb355,1,none⟩ = some (.string (⟨#[]⟩ : ByteArray)):=(blk_cell BK355.out 1).trans rfl;have hcz17_2 : w15.cell? ⟨gb355,2,none⟩ = some (.bool false):=(blk_cell BK355.out 2).trans rfl;have hcz17_3 : w15.cell? ⟨gb355,3,none⟩ = some (.int .i64 0):=(blk_cell BK355.out 3).trans rfl;have hfz17_0:=blk_frozen BK355.out 0;have hfz17_1:=blk_frozen BK355.out 1;have hfz17_2:=blk_frozen BK355.out 2;have hfz17_3:=blk_frozen BK355.out 3) | ((with_reducible refine gate_store (t:=26) (p:=6) rfl ?_);refine store_event (t:=26) (p:=6) (v:=?vo_w18) (w1:=((((w15.setCell ⟨gb355,0,none⟩ (.int .i64 ((rd_T26 t343 t351).f0))).setCell ⟨gb355,1,none⟩ (.string ((rd_T26 t343 t351).f1))).setCell ⟨gb355,2,none⟩ (.bool ((rd_T26 t343 t351).f2))).setCell ⟨gb355,3,none⟩ (.int .i64 ((rd_T26 t343 t351).f3)))) ?hg ?ho ?hn ?hr ?_;(case ho => rfl);(case hg => rfl);(case hn => rfl);(case hr => (go_simp;done));intro w18 hw;have n0_ : Aside0 (Kd.Q k26 26 w18 w.heap.size (fun k_ => k_ ≠ gb355) (.slice (some ad354) t343.length co12) t343):=⟨(by rw [hw];exact (by exact Kd.Q_mono (Kd.Q_far (p:=⟨gb355,3,none⟩) (Kd.Q_far (p:=⟨gb355,2,none⟩) (Kd.Q_far (p:=⟨gb355,1,none⟩) (Kd.Q_far (p:=⟨gb355,0,none⟩) (Kd.Q_mono HO345.out (fun k_ hk => (⟨hk,hk.2⟩ : _ ∧ k_ ≠ gb355))) (fun _ hk => hk.2) (.int .i64 ((rd_T26 t343 t351).f0))) (fun _ hk => hk.2) (.string ((rd_T26 t343 t351).f1))) (fun _ hk => hk.2) (.bool ((rd_T26 t343 t351).f2))) (fun _ hk => hk.2) (.int .i64 ((rd_T26 t343 t351).f3))) (fun _ hk => hk.1.2)))⟩;have n1_ : Aside0 (w18.heap[gb355]? = some (.cells #[.int .i64 ((rd_T26 t343 t351).f0), .string ((rd_T26 t343 t351).f1), .bool ((rd_T26 t343 t351).f2), .int .i64 ((rd_T26 t343 t351).f3)] 26 (0,0))):=⟨(by rw [hw];exact (by refine blk_put (cs:=#[.int .i64 ((rd_T26 t343 t351).f0), .string ((rd_T26 t343 t351).f1), .bool ((rd_T26 t343 t351).f2), .int .i64 0]) ?_ 3 _ rfl;refine blk_put (cs:=#[.int .i64 ((rd_T26 t343 t351).f0), .string ((rd_T26 t343 t351).f1), .bool false, .int .i64 0]) ?_ 2 _ rfl;refine blk_put (cs:=#[.int .i64 ((rd_T26 t343 t351).f0), .string (⟨#[]⟩ : ByteArray), .bool false, .int .i64 0]) ?_ 1 _ rfl;refine blk_put (cs:=#[.int .i64 0, .string (⟨#[]⟩ : ByteArray), .bool false, .int .i64 0]) ?_ 0 _ rfl;exact BK355.out))⟩;have n2_ : Aside0 (IsS44 w w18 gb342 l0 t352 t353):=⟨(by rw [hw];exact (by repeat ((with_reducible first | exact HI342.out | refine IsS44.far ?_ NB342_355.out _))))⟩;have n3_ : Aside0 (Below w.heap.size w w18):=⟨(by rw [hw];exact (by repeat ((with_reducible first | exact HB.out | refine below_set ?_ GE355.out))))⟩;clear hw;clear HO345;clear BK355;clear HI342;clear HB;have HO345:=n0_;have BK355:=n1_;have HI342:=n2_;have HB:=n3_;clear n0_ n1_ n2_ n3_;have hcz19_0 : w18.cell? ⟨gb355,0,none⟩ = some (.int .i64 ((rd_T26 t343 t351).f0)):=(blk_cell BK355.out 0).trans rfl;have hcz19_1 : w18.cell? ⟨gb355,1,none⟩ = some (.string ((rd_T26 t343 t351).f1)):=(blk_cell BK355.out 1).trans rfl;have hcz19_2 : w18.cell? ⟨gb355,2,none⟩ = some (.bool ((rd_T26 t343 t351).f2)):=(blk_cell BK355.out 2).trans rfl;have hcz19_3 : w18.cell? ⟨gb355,3,none⟩ = some (.int .i64 ((rd_T26 t343 t351).f3)):=(blk_cell BK355.out 3).trans rfl;have hfz19_0:=blk_frozen BK355.out 0;have hfz19_1:=blk_frozen BK355.out 1;have hfz19_2:=blk_frozen BK355.out 2;have hfz19_3:=blk_frozen BK355.out 3) | ((with_reducible refine gate_store (t:=4) (p:=30) rfl ?_);refine store_event (t:=4) (p:=30) (v:=?vo_w20) (w1:=(w18.setCell ⟨gb355,2,none⟩ (.bool (!((rd_T26 t343 t351).f2))))) ?hg ?ho ?hn ?hr ?_;(case ho => rfl);(case hg => rfl);(case hn => rfl);(case hr => (go_simp;done));intro w20 hw;have n0_ : Aside0 (Kd.Q k26 26 w20 w.heap.size (fun k_ => k_ ≠ gb355) (.slice (some ad354) t343.length co12) t343):=⟨(by rw [hw];exact (by exact Kd.Q_mono (Kd.Q_far (p:=⟨gb355,2,none⟩) (Kd.Q_mono HO345.out (fun k_ hk => (⟨hk,hk⟩ : _ ∧ k_ ≠ gb355))) (fun _ hk => hk.2) (.bool (!((rd_T26 t343 t351).f2)))) (fun _ hk => hk.1)))⟩;have n1_ : Aside0 (w20.heap[gb355]? = some (.cells #[.int .i64 ((rd_T26 t343 t351).f0), .string ((rd_T26 t343 t351).f1), .bool (!((rd_T26 t343 t351).f2)), .int .i64 ((rd_T26 t343 t351).f3)] 26 (0,0))):=⟨(by rw [hw];exact (by refine blk_put (cs:=#[.int .i64 ((rd_T26 t343 t351).f0), .string ((rd_T26 t343 t351).f1), .bool ((rd_T26 t343 t351).f2), .int .i64 ((rd_T26 t343 t351).f3)]) ?_ 2 _ rfl;exact BK355.out))⟩;have n2_ : Aside0 (IsS44 w w20 gb342 l0 t352 t353):=⟨(by rw [hw];exact (by repeat ((with_reducible first | exact HI342.out | refine IsS44.far ?_ NB342_355.out _))))⟩;have n3_ : Aside0 (Below w.heap.size w w20):=⟨(by rw [hw];exact (by repeat ((with_reducible first | exact HB.out | refine below_set ?_ GE355.out))))⟩;clear hw;clear HO345;clear BK355;clear HI342;clear HB;have HO345:=n0_;have BK355:=n1_;have HI342:=n2_;have HB:=n3_;clear n0_ n1_ n2_ n3_;have hcz21_0 : w20.cell? ⟨gb355,0,none⟩ = some (.int .i64 ((rd_T26 t343 t351).f0)):=(blk_cell BK355.out 0).trans rfl;have hcz21_1 : w20.cell? ⟨gb355,1,none⟩ = some (.string ((rd_T26 t343 t351).f1)):=(blk_cell BK355.out 1).trans rfl;have hcz21_2 : w20.cell? ⟨gb355,2,none⟩ = some (.bool (!((rd_T26 t343 t351).f2))):=(blk_cell BK355.out 2).trans rfl;have hcz21_3 : w20.cell? ⟨gb355,3,none⟩ = some (.int .i64 ((rd_T26 t343 t351).f3)):=(blk_cell BK355.out 3).trans rfl;have hfz21_0:=blk_frozen BK355.out 0;have hfz21_1:=blk_frozen BK355.out 1;have hfz21_2:=blk_frozen BK355.out 2;have hfz21_3:=blk_frozen BK355.out 3;have p9 : 0 ≤ (t351 : Int):=of_decide_eq_true (by (with_reducible assumption));have q9 : (t351 : Int) < ((t343.length : Int) : Int):=of_decide_eq_true (by (with_reducible assumption));obtain ⟨go9,oo9,co9,eo9,gb9,gl9,cl9,HG9⟩ := Kd.Q_form HO345.out (by omega);(cases eo9);have GB9:=Aside0.mk gb9;have GG9:=Aside0.mk HG9;clear gb9 gl9 HG9;(simp only [add_at] at hx354_0);(simp only [add_at] at hx354_1);(simp only [add_at] at hx354_2);(simp only [add_at] at hx354_3);obtain ⟨ce9,hcl9,hM9,hcc9,hfr9⟩ := Kd.Q_elem HO345.out z26 (t351 : Int) p9 q9;obtain rfl:=k26_openM hM9;have hx9_0 : w20.cell? ⟨go9,oo9 + (t351 : Int).toNat * 4,none⟩ = some (.int .i64 ((rd_T26 t343 t351).f0)):=hcc9 0 _ rfl;have hx9_1 : w20.cell? ⟨go9,oo9 + (t351 : Int).toNat * 4 + 1,none⟩ = some (.string ((rd_T26 t343 t351).f1)):=hcc9 1 _ rfl;have hx9_2 : w20.cell? ⟨go9,oo9 + (t351 : Int).toNat * 4 + 2,none⟩ = some (.bool ((rd_T26 t343 t351).f2)):=hcc9 2 _ rfl;have hx9_3 : w20.cell? ⟨go9,oo9 + (t351 : Int).toNat * 4 + 3,none⟩ = some (.int .i64 ((rd_T26 t343 t351).f3)):=hcc9 3 _ rfl;have hf9_0 : w20.frozen? ⟨go9,oo9 + (t351 : Int).toNat * 4,none⟩ = false:=hfr9 0;have hf9_1 : w20.frozen? ⟨go9,oo9 + (t351 : Int).toNat * 4 + 1,none⟩ = false:=hfr9 1;have hf9_2 : w20.frozen? ⟨go9,oo9 + (t351 : Int).toNat * 4 + 2,none⟩ = false:=hfr9 2;have hf9_3 : w20.frozen? ⟨go9,oo9 + (t351 : Int).toNat * 4 + 3,none⟩ = false:=hfr9 3;clear hcl9 hcc9 hfr9;(try clear hM9);replace p9:=eq_true p9;replace q9:=eq_true q9;have HX22:=Aside0.mk (show Kd.Q k26 26 w20 w.heap.size (fun k_ => k_ ≠ gb355) (.slice (some ⟨go9,oo9,none⟩) t343.length co12) t343 from (by exact HO345.out));obtain ⟨ce22,hcl22,hM22,hcc22,hfr22⟩ := Kd.Q_elem HX22.out z26 (t351 : Int) (of_decide_eq_true (by (with_reducible assumption))) (by have h_ : (t351 : Int) < ((t343.length : Int) : Int):=of_decide_eq_true (by (with_reducible assumption));exact h_);obtain rfl:=k26_openM hM22;have HP22:=Kd.Q_seg HX22.out (t351 : Int) (of_decide_eq_true (by (with_reducible assumption))) (by have h_ : (t351 : Int) < ((t343.length : Int) : Int):=of_decide_eq_true (by (with_reducible assumption));exact h_) (seg := [.int .i64 ((rd_T26 t343 t351).f0), .string ((rd_T26 t343 t351).f1), .bool (!((rd_T26 t343 t351).f2)), .int .i64 ((rd_T26 t343 t351).f3)]) (j:=0) hcl22 hcc22 (show 4 ≤ 4 from by decide) (x':=(⟨(rd_T26 t343 t351).f0,(rd_T26 t343 t351).f1,!((rd_T26 t343 t351).f2),(rd_T26 t343 t351).f3⟩ : S26)) (k26_mkM _ _ _ (⟨(rd_T26 t343 t351).f0,(rd_T26 t343 t351).f1,!((rd_T26 t343 t351).f2),(rd_T26 t343 t351).f3⟩ : S26) ) (fun _ hk => hk);have hx22_0:=hcc22 0 _ rfl;(try simp only [show (k26).sz = 4 from rfl,Nat.mul_one,Nat.add_zero] at hx22_0);have hf22_0:=hfr22 0;(try simp only [show (k26).sz = 4 from rfl,Nat.mul_one,Nat.add_zero] at hf22_0);have hx22_1:=hcc22 1 _ rfl;(try simp only [show (k26).sz = 4 from rfl,Nat.mul_one,Nat.add_zero] at hx22_1);have hf22_1:=hfr22 1;(try simp only [show (k26).sz = 4 from rfl,Nat.mul_one,Nat.add_zero] at hf22_1);have hx22_2:=hcc22 2 _ rfl;(try simp only [show (k26).sz = 4 from rfl,Nat.mul_one,Nat.add_zero] at hx22_2);have hf22_2:=hfr22 2;(try simp only [show (k26).sz = 4 from rfl,Nat.mul_one,Nat.add_zero] at hf22_2);have hx22_3:=hcc22 3 _ rfl;(try simp only [show (k26).sz = 4 from rfl,Nat.mul_one,Nat.add_zero] at hx22_3);have hf22_3:=hfr22 3;(try simp only [show (k26).sz = 4 from rfl,Nat.mul_one,Nat.add_zero] at hf22_3);clear hcl22 hcc22 hfr22;(try clear hM22)) | ((with_reducible refine gate_store (t:=26) (p:=34) rfl ?_);refine store_event (t:=26) (p:=34) (v:=?vo_w23) (w1:=((((w20.setCell ⟨go9,oo9 + (t351 : Int).toNat * 4,none⟩ (.int .i64 ((rd_T26 t343 t351).f0))).setCell ⟨go9,oo9 + (t351 : Int).toNat * 4 + 1,none⟩ (.string ((rd_T26 t343 t351).f1))).setCell ⟨go9,oo9 + (t351 : Int).toNat * 4 + 2,none⟩ (.bool (!((rd_T26 t343 t351).f2)))).setCell ⟨go9,oo9 + (t351 : Int).toNat * 4 + 3,none⟩ (.int .i64 ((rd_T26 t343 t351).f3)))) ?hg ?ho ?hn ?hr ?_;(case ho => rfl);(case hg => rfl);(case hn => rfl);(case hr => (go_simp;done));intro w23 hw;have hg : w20.grownBy w23 (some go9):=(by rw [hw];exact HP22.2);have hp_ : Kd.Q k26 26 w23 w.heap.size (fun k_ => k_ ≠ gb355) (.slice (some ⟨go9,oo9,none⟩) t343.length co12) y356:=(by rw [hw,Ny356.out];exact HP22.1);clear HP22;have n0_:=Aside0.mk (IsS44.grown (by exact HI342.out) hg (IsS44.own_neQ HI342.out HO345.out (by decide)));have n1_:=Aside0.mk (hp_);have n2_:=Aside0.mk (blk_grown (g:=gb355) (o := .cells #[.int .i64 ((rd_T26 t343 t351).f0), .string ((rd_T26 t343 t351).f1), .bool (!((rd_T26 t343 t351).f2)), .int .i64 ((rd_T26 t343 t351).f3)] 26 (0,0)) (by exact BK355.out) hg (Kd.Q_away HO345.out (fun _ hk => hk)));have n3_:=Aside0.mk ((by rw [hw];exact below_set (below_set (below_set (below_set (HB.out) GB9.out) GB9.out) GB9.out) GB9.out : Below w.heap.size w w23));clear HI342;clear HO345;clear BK355;clear HB;have HI342:=n0_;have HO345:=n1_;have BK355:=n2_;have HB:=n3_;clear n0_ n1_ n2_ n3_;clear hg hw hp_))
     go_ret
     exact ⟨_,by rfl,by exact Kd.Q_mono HO345.out (fun _ hk => trivial),by exact HB.out⟩
    ·rw [if_neg c8] at H
     exact absurd H (by simp)
   ·rw [if_neg c7] at H
    exact absurd H (by simp)
  ·replace c5:=Bool.eq_false_iff.mpr c5
   subst c5
   have H1 : (some t343) = some r:=by rw [if_neg (show ¬ (false = true) by decide)] at H;exact H
   clear H
   have H:=H1
   clear H1
   obtain rfl:=Option.some.inj H
   go_enter Try.func9,Try.ntmps9
   go_wp2_with (first | ((with_reducible refine gate_dst (N:=9) rfl ?_);refine box_event ?hg (N:=9) ?hd (cs:=#[.slice A0 l0.length c0, .int .i64 0, .int .u64 0]) (t:=44) ?hr ?_;(case hd => rfl);(case hg => rfl);(case hr => (go_simp;done));intro gb342 hg w24 hbox hb;have n0_:=Aside0.mk (below_step (by exact HB.out) hb);have n1_:=Aside0.mk ((show IsS44 w _ gb342 l0 0 0 from ⟨_,_,hbox,(by rw [hg];exact (below_size (by exact HB.out)) : w.heap.size ≤ gb342),HR0.out⟩));clear HB;have HB:=n0_;have HI342:=n1_;clear n0_ n1_;clear hb hbox hg) | ((with_reducible refine gate_callee (f:=19) rfl ?_);refine goesL_ (some 11) rfl rfl Try.func19 (by kernel_rfl) rfl #[.pointer (some ⟨gb342,0,none⟩)] rfl (by (try simp only [List.map_toArray,List.map_cons,List.map_nil]);rfl) ?_;(with_reducible refine (spec_l1Cur_file.calls k gb342 l0 0 0 t343 t346 t347 w _ ?side1 ?side2 A2.out).mono ?_);(case side1 => exact HI342.out);(case side2 => exact HB.out);rintro e w25 ⟨v344,rfl,ho0,hi,hb,hk⟩;refine ⟨_,rfl, ?_⟩;have n0_:=Aside0.mk (Kd.Q_lower ho0 (below_size (by exact HB.out)));have n1_:=Aside0.mk (hb);have n2_:=Aside0.mk (hi);clear HB;clear HI342;have HO345:=n0_;have HB:=n1_;have HI342:=n2_;clear n0_ n1_ n2_;(try clear hb);(try clear hk);(try clear hi);(try clear ho0);obtain ⟨Ao26,co26,eo26,_⟩ := Kd.Q_slice HO345.out;subst eo26) | (go_at_call 22;(with_reducible refine (spec_l1Cur_one.calls gb342 l0 t346 t347 2 false t349 t350 w _ ?side1 ?side2 A4.out).mono ?_);(case side1 => exact HI342.out);(case side2 => exact HB.out);rintro e w27 ⟨rfl,hi,hb,hk⟩;have n0_:=Aside0.mk (Kd.Q_mono (Kd.Q_keep (IsS44.apartQ (show IsS44 w _ gb342 l0 t346 t347 from by exact HI342.out) (by exact HO345.out) (by decide)) hk (fun _ h => h.2)) (fun _ h => h.1));have n1_:=Aside0.mk (hb);have n2_:=Aside0.mk (hi);clear HO345;clear HB;clear HI342;have HO345:=n0_;have HB:=n1_;have HI342:=n2_;clear n0_ n1_ n2_;(try clear hb);(try clear hk);(try clear hi)))
   go_ret
   exact ⟨_,by rfl,by exact HO345.out,by exact HB.out⟩
 ·rw [if_neg c3] at H
  have c3b0 : decide (0 < (t343.length : Int)) = false:=decide_eq_false c3
  have c3b1 : decide (0 < t343.length) = false:=decide_eq_false (by omega)
  clear c3
  obtain rfl:=Option.some.inj H
  go_enter Try.func9,Try.ntmps9
  go_wp2_with (first | ((with_reducible refine gate_dst (N:=9) rfl ?_);refine box_event ?hg (N:=9) ?hd (cs:=#[.slice A0 l0.length c0, .int .i64 0, .int .u64 0]) (t:=44) ?hr ?_;(case hd => rfl);(case hg => rfl);(case hr => (go_simp;done));intro gb342 hg w28 hbox hb;have n0_:=Aside0.mk (below_step (by exact HB.out) hb);have n1_:=Aside0.mk ((show IsS44 w _ gb342 l0 0 0 from ⟨_,_,hbox,(by rw [hg];exact (below_size (by exact HB.out)) : w.heap.size ≤ gb342),HR0.out⟩));clear HB;have HB:=n0_;have HI342:=n1_;clear n0_ n1_;clear hb hbox hg) | ((with_reducible refine gate_callee (f:=19) rfl ?_);refine goesL_ (some 11) rfl rfl Try.func19 (by kernel_rfl) rfl #[.pointer (some ⟨gb342,0,none⟩)] rfl (by (try simp only [List.map_toArray,List.map_cons,List.map_nil]);rfl) ?_;(with_reducible refine (spec_l1Cur_file.calls k gb342 l0 0 0 t343 t346 t347 w _ ?side1 ?side2 A2.out).mono ?_);(case side1 => exact HI342.out);(case side2 => exact HB.out);rintro e w29 ⟨v344,rfl,ho0,hi,hb,hk⟩;refine ⟨_,rfl, ?_⟩;have n0_:=Aside0.mk (Kd.Q_lower ho0 (below_size (by exact HB.out)));have n1_:=Aside0.mk (hb);have n2_:=Aside0.mk (hi);clear HB;clear HI342;have HO345:=n0_;have HB:=n1_;have HI342:=n2_;clear n0_ n1_ n2_;(try clear hb);(try clear hk);(try clear hi);(try clear ho0);obtain ⟨Ao30,co30,eo30,_⟩ := Kd.Q_slice HO345.out;subst eo30))
  go_ret
  exact ⟨_,by rfl,by exact HO345.out,by exact HB.out⟩

/-! ### impl_FirstConflict: function 10 -/
def impl_FirstConflict.f (k : Nat) (l0 : List (S26)) : Option (Int × Bool):=(impl_conflictIn.f k l0).bind fun t357 => (if t357 = (l0.length : Int) then (some (0,false)) else (some (t357,true)))
theorem impl_FirstConflict.mono : ∀ a0 k,LeO (impl_FirstConflict.f k a0) (impl_FirstConflict.f (k + 1) a0):=by
 intro a0 k
 unfold impl_FirstConflict.f
 repeat' first
   | (with_reducible exact impl_conflictIn.mono _ _)
   | (with_reducible exact LeO.refl _)
   | (with_reducible exact LeO.none _)
   | (with_reducible refine LeO.ite ?_ ?_)
   | (with_reducible refine LeO.bind ?_ (fun _ => ?_))
   | exact impl_conflictIn.mono _ _
   | exact LeO.none _
   | refine LeO.ite ?_ ?_
   | refine LeO.bind ?_ (fun _ => ?_)
set_option maxHeartbeats 8000000 in
set_option maxRecDepth 100000 in
theorem impl_FirstConflict.calls (k : Nat) (A0 : Option Addr) (c0 : Nat) (l0 : List (S26)) (r1 : Int) (r2 : Bool) (w : World) (hr0 : Kd.C k26 w A0 l0.length l0) (hc0 : l0.length ≤ c0) (h : impl_FirstConflict.f k l0 = some (r1,r2)) :
  Calls Try.prog 10 #[.slice A0 l0.length c0] w fun e w' => e = .returned (.tuple #[.int .i64 r1, .bool r2]) ∧ Below w.heap.size w w':=by
 have HR0:=Aside0.mk hr0
 have HC0:=Aside0.mk hc0
 clear hr0 hc0
 have HB:=Aside0.mk (Below.refl w.heap.size w)
 have H : ((impl_conflictIn.f k l0).bind fun t357 => (if t357 = (l0.length : Int) then (some (0,false)) else (some (t357,true)))) = some (r1,r2):=h
 clear h
 replace H:=Option.bind_eq_some_iff.mp H
 obtain ⟨t357,A20,H⟩ := H
 replace H : (if t357 = (l0.length : Int) then (some (0,false)) else (some (t357,true))) = some (r1,r2):=H
 have A2:=Aside0.mk A20
 clear A20
 by_cases c3 : t357 = (l0.length : Int)
 ·rw [if_pos c3] at H
  have c3b0 : (t357 == (l0.length : Int)) = true:=beq_iff_eq.mpr c3
  have c3b1 : (t357 != (l0.length : Int)) = false:=bne_eq_false_iff_eq.mpr c3
  clear c3
  simp only [Option.some.injEq,Prod.mk.injEq] at H
  obtain ⟨rfl,rfl⟩ := H
  go_enter Try.func10,Try.ntmps10
  go_wp2_with (((with_reducible refine gate_callee (f:=27) rfl ?_);refine goesL_ (some 6) rfl rfl Try.func27 (by kernel_rfl) rfl #[.slice A0 l0.length c0] rfl (by (try simp only [List.map_toArray,List.map_cons,List.map_nil]);rfl) ?_;(with_reducible refine (impl_conflictIn.calls k _ _ l0 t357 _ ?side1 ?side2 A2.out).mono ?_);(case side1 => repeat (exact HR0.out));(case side2 => exact HC0.out);rintro e w4 ⟨rfl,hb⟩;refine ⟨_,rfl, ?_⟩;have n0_:=Aside0.mk (below_step (by exact HB.out) hb);clear HB;have HB:=n0_;clear n0_;(try clear hb)))
  go_ret2
  exact ⟨by rfl,by exact HB.out⟩
 ·rw [if_neg c3] at H
  have c3b0 : (t357 == (l0.length : Int)) = false:=beq_eq_false_iff_ne.mpr c3
  have c3b1 : (t357 != (l0.length : Int)) = true:=bne_iff_ne.mpr c3
  simp only [Option.some.injEq,Prod.mk.injEq] at H
  obtain ⟨rfl,rfl⟩ := H
  go_enter Try.func10,Try.ntmps10
  go_wp2_with (((with_reducible refine gate_callee (f:=27) rfl ?_);refine goesL_ (some 6) rfl rfl Try.func27 (by kernel_rfl) rfl #[.slice A0 l0.length c0] rfl (by (try simp only [List.map_toArray,List.map_cons,List.map_nil]);rfl) ?_;(with_reducible refine (impl_conflictIn.calls k _ _ l0 t357 _ ?side1 ?side2 A2.out).mono ?_);(case side1 => repeat (exact HR0.out));(case side2 => exact HC0.out);rintro e w5 ⟨rfl,hb⟩;refine ⟨_,rfl, ?_⟩;have n0_:=Aside0.mk (below_step (by exact HB.out) hb);clear HB;have HB:=n0_;clear n0_;(try clear hb)))
  go_ret2
  exact ⟨by rfl,by exact HB.out⟩

/-! ### spec_FirstConflict: function 11 -/
def spec_FirstConflict.l0 : Nat → List (S26) → Int → Option (Int × Bool)
 | 0,_,_ => none
 | k + 1,x0,x4 => if x4 < (x0.length : Int) then (if 0 ≤ (wrap64 (x4 + 1)) then (if (wrap64 (x4 + 1)) ≤ (x0.length : Int) then ((spec_l20Good.f k (x0.take ((wrap64 (x4 + 1)) : Int).toNat)).bind fun t362 => (if t362 = true then (spec_FirstConflict.l0 k x0 (wrap64 (x4 + 1))) else (some (x4,true)))) else (none)) else (none)) else (some (0,false))
def spec_FirstConflict.f (k : Nat) (l0 : List (S26)) : Option (Int × Bool):=spec_FirstConflict.l0 k l0 0
theorem spec_FirstConflict.mono_l : ∀ k,(∀ y0 y1,LeO (spec_FirstConflict.l0 k y0 y1) (spec_FirstConflict.l0 (k + 1) y0 y1))
 | 0 => fun _ _ r h => by simp [spec_FirstConflict.l0] at h
 | k + 1 => by
  have ih0:=spec_FirstConflict.mono_l k
  ·intro y0 y1
   unfold spec_FirstConflict.l0
   repeat' first
   | (with_reducible exact ih0 _ _)
   | (with_reducible exact spec_l20Good.mono _ _)
   | (with_reducible exact LeO.refl _)
   | (with_reducible exact LeO.none _)
   | (with_reducible refine LeO.ite ?_ ?_)
   | (with_reducible refine LeO.bind ?_ (fun _ => ?_))
   | exact ih0 _ _
   | exact spec_l20Good.mono _ _
   | exact LeO.none _
   | refine LeO.ite ?_ ?_
   | refine LeO.bind ?_ (fun _ => ?_)
theorem spec_FirstConflict.mono : ∀ a0 k,LeO (spec_FirstConflict.f k a0) (spec_FirstConflict.f (k + 1) a0):=by
 intro a0 k
 have ih0:=spec_FirstConflict.mono_l k
 unfold spec_FirstConflict.f
 repeat' first
   | (with_reducible exact ih0 _ _)
   | (with_reducible exact spec_l20Good.mono _ _)
   | (with_reducible exact LeO.refl _)
   | (with_reducible exact LeO.none _)
   | (with_reducible refine LeO.ite ?_ ?_)
   | (with_reducible refine LeO.bind ?_ (fun _ => ?_))
   | exact ih0 _ _
   | exact spec_l20Good.mono _ _
   | exact LeO.none _
   | refine LeO.ite ?_ ?_
   | refine LeO.bind ?_ (fun _ => ?_)
set_option maxHeartbeats 8000000 in
set_option maxRecDepth 100000 in
theorem spec_FirstConflict.calls (k : Nat) (A0 : Option Addr) (c0 : Nat) (l0 : List (S26)) (r1 : Int) (r2 : Bool) (w : World) (hr0 : Kd.C k26 w A0 l0.length l0) (hc0 : l0.length ≤ c0) (h : spec_FirstConflict.f k l0 = some (r1,r2)) :
  Calls Try.prog 11 #[.slice A0 l0.length c0] w fun e w' => e = .returned (.tuple #[.int .i64 r1, .bool r2]) ∧ Below w.heap.size w w':=by
 have HR0:=Aside0.mk hr0
 have HC0:=Aside0.mk hc0
 clear hr0 hc0
 have HB:=Aside0.mk (Below.refl w.heap.size w)
 have H : (spec_FirstConflict.l0 k l0 0) = some (r1,r2):=h
 clear h
 have H':=Aside0.mk H
 clear H
 go_enter Try.func11,Try.ntmps11
 go_wp2
 go_loopg [4] k (fun kq v4 w' => ∃ (x4_1 : Int),v4 = .int .i64 x4_1 ∧ Aside0 (spec_FirstConflict.l0 kq l0 x4_1 = some (r1,r2)) ∧ Aside0 (kq ≤ k) ∧ Aside0 (Below w.heap.size w w'))
 case atStart => exact ⟨(0),(by rfl),H',⟨Nat.le_refl _⟩,⟨by exact HB.out⟩⟩
 case round =>
  clear H'
  try clear c1
  obtain ⟨x4_1,rfl,HA,HK1,HB⟩ := hrel
  cases gk with
  | zero => exact absurd HA.out (by simp [spec_FirstConflict.l0])
  | succ k1 =>
   have H:=HA.out
   clear HA
   simp only [spec_FirstConflict.l0] at H
   by_cases c2 : x4_1 < (l0.length : Int)
   ·rw [if_pos c2] at H
    have c2b0 : decide (x4_1 < (l0.length : Int)) = true:=decide_eq_true c2
    clear c2
    obtain ⟨ji3,hji3⟩ : ∃ j_ : Int,(wrap64 (x4_1 + 1)) = j_:=⟨_,rfl⟩
    replace H : (if 0 ≤ (ji3) then (if (ji3) ≤ (l0.length : Int) then ((spec_l20Good.f k1 (l0.take ((ji3) : Int).toNat)).bind fun t362 => (if t362 = true then (spec_FirstConflict.l0 k1 l0 ji3) else (some (x4_1,true)))) else (none)) else (none)) = some (r1,r2):=by (rw [hji3] at H;exact H)
    have hji3w : (IntKind.i64.wrap (x4_1 + 1)) = ji3:=(i64_w _).trans hji3
    by_cases c4 : 0 ≤ (ji3)
    ·rw [if_pos c4] at H
     have c4b0:=eq_true c4
     have c4b1 : decide (0 ≤ (ji3)) = true:=decide_eq_true c4
     clear c4
     by_cases c5 : (ji3) ≤ (l0.length : Int)
     ·rw [if_pos c5] at H
      have c5b0:=eq_true c5
      have c5b1 : decide ((ji3) ≤ (l0.length : Int)) = true:=decide_eq_true c5
      clear c5
      obtain ⟨y358,hy358⟩ : ∃ y_ : List (S26),y_ = (l0.take ((ji3) : Int).toNat):=⟨_,rfl⟩
      replace H : ((spec_l20Good.f k1 y358).bind fun t362 => (if t362 = true then (spec_FirstConflict.l0 k1 l0 ji3) else (some (x4_1,true)))) = some (r1,r2):=by (rw [hy358];with_reducible exact H)
      have Ny358:=Aside0.mk hy358
      clear hy358
      replace H:=Option.bind_eq_some_iff.mp H
      obtain ⟨t362,A60,H⟩ := H
      replace H : (if t362 = true then (spec_FirstConflict.l0 k1 l0 ji3) else (some (x4_1,true))) = some (r1,r2):=H
      have A6:=Aside0.mk A60
      clear A60
      by_cases c7 : t362 = true
      ·subst c7
       have H1 : (spec_FirstConflict.l0 k1 l0 ji3) = some (r1,r2):=by rw [if_pos rfl] at H;exact H
       clear H
       have H:=H1
       clear H1
       have H':=Aside0.mk H
       clear H
       have q8 : ((ji3) : Int) ≤ ((l0.length : Int) : Int):=of_decide_eq_true (by (with_reducible assumption))
       obtain ⟨i08,hi08,_,hsz8,_⟩ := info_parts info26
       have hroom8 : l0.length ≤ c0:=HC0.out
       have hC8 : Kd.C k26 _ A0 l0.length l0:=HR0.out
       have hcut8:=cut_to (P:=Try.prog) 24 26 .i64 Try.underlying24 hi08 A0 l0.length c0 (ji3) (of_decide_eq_true (by (with_reducible assumption))) q8 hroom8
       have hr8:=Kd.C_take (m:=((ji3) : Int).toNat) hC8 (by omega)
       have hy8 : y358.length = ((ji3) : Int).toNat:=(by rw [Ny358.out,List.length_take];omega)
       rw [← Ny358.out] at hr8
       rw [← hy8] at hcut8
       have HR361:=Aside0.mk hr8
       have HC361:=Aside0.mk (show y358.length ≤ c0 from by omega)
       clear hr8 hC8 hroom8 hi08 hsz8
       have KY8:=Aside0.mk hy8
       clear hy8
       replace q8:=eq_true q8
       go_wp2_with (((with_reducible refine gate_callee (f:=25) rfl ?_);refine goesL_ (some 15) rfl rfl Try.func25 (by kernel_rfl) rfl #[.slice A0 y358.length c0] rfl (by (try simp only [List.map_toArray,List.map_cons,List.map_nil]);rfl) ?_;(with_reducible refine (spec_l20Good.calls k1 _ _ y358 true _ ?side1 ?side2 A6.out).mono ?_);(case side1 => repeat (exact (Kd.C_below HR361.out HB.out)));(case side2 => exact HC361.out);rintro e w9 ⟨rfl,hb⟩;refine ⟨_,rfl, ?_⟩;have n0_:=Aside0.mk (below_step (by exact HB.out) hb);clear HB;have HB:=n0_;clear n0_;(try clear hb)))
       go_roundg k1
       case measure => have:=HK1.out;omega
       case rel => exact ⟨(ji3),(by rfl),H',⟨by have:=HK1.out;omega⟩,⟨by exact HB.out⟩⟩
      ·replace c7:=Bool.eq_false_iff.mpr c7
       subst c7
       have H1 : (some (x4_1,true)) = some (r1,r2):=by rw [if_neg (show ¬ (false = true) by decide)] at H;exact H
       clear H
       have H:=H1
       clear H1
       simp only [Option.some.injEq,Prod.mk.injEq] at H
       obtain ⟨rfl,rfl⟩ := H
       have q10 : ((ji3) : Int) ≤ ((l0.length : Int) : Int):=of_decide_eq_true (by (with_reducible assumption))
       obtain ⟨i010,hi010,_,hsz10,_⟩ := info_parts info26
       have hroom10 : l0.length ≤ c0:=HC0.out
       have hC10 : Kd.C k26 _ A0 l0.length l0:=HR0.out
       have hcut10:=cut_to (P:=Try.prog) 24 26 .i64 Try.underlying24 hi010 A0 l0.length c0 (ji3) (of_decide_eq_true (by (with_reducible assumption))) q10 hroom10
       have hr10:=Kd.C_take (m:=((ji3) : Int).toNat) hC10 (by omega)
       have hy10 : y358.length = ((ji3) : Int).toNat:=(by rw [Ny358.out,List.length_take];omega)
       rw [← Ny358.out] at hr10
       rw [← hy10] at hcut10
       have HR361:=Aside0.mk hr10
       have HC361:=Aside0.mk (show y358.length ≤ c0 from by omega)
       clear hr10 hC10 hroom10 hi010 hsz10
       have KY10:=Aside0.mk hy10
       clear hy10
       replace q10:=eq_true q10
       go_wp2_with (((with_reducible refine gate_callee (f:=25) rfl ?_);refine goesL_ (some 15) rfl rfl Try.func25 (by kernel_rfl) rfl #[.slice A0 y358.length c0] rfl (by (try simp only [List.map_toArray,List.map_cons,List.map_nil]);rfl) ?_;(with_reducible refine (spec_l20Good.calls k1 _ _ y358 false _ ?side1 ?side2 A6.out).mono ?_);(case side1 => repeat (exact (Kd.C_below HR361.out HB.out)));(case side2 => exact HC361.out);rintro e w11 ⟨rfl,hb⟩;refine ⟨_,rfl, ?_⟩;have n0_:=Aside0.mk (below_step (by exact HB.out) hb);clear HB;have HB:=n0_;clear n0_;(try clear hb)))
       go_ret2
       exact ⟨by rfl,by exact HB.out⟩
     ·rw [if_neg c5] at H
      exact absurd H (by simp)
    ·rw [if_neg c4] at H
     exact absurd H (by simp)
   ·rw [if_neg c2] at H
    have c2b0 : decide (x4_1 < (l0.length : Int)) = false:=decide_eq_false c2
    clear c2
    simp only [Option.some.injEq,Prod.mk.injEq] at H
    obtain ⟨rfl,rfl⟩ := H
    go_wp2
    go_ret2
    exact ⟨by rfl,by exact HB.out⟩

/-! ### spec_DrawHeldHours: function 13 -/
def spec_DrawHeldHours.f (k : Nat) (l0 : List Int) : Option ((List (S26)) × ByteArray × Int × Int):=(spec_l1Cur_file.f k l0 0 0).bind fun bt364 => ((spec_l1Cur_anyId20.f k l0 bt364.2.1 bt364.2.2).bind fun bt369 => ((some (([1,2,4,8,3,0] : List Int) : List Int)).bind fun y372 => ((spec_l1Cur_pick.f l0 bt369.2.1 bt369.2.2 24).bind fun bt375 => (if 0 ≤ (wrap64 (4 + (wrap64 (Int.tdiv bt375.1 11)))) then (if (wrap64 (4 + (wrap64 (Int.tdiv bt375.1 11)))) ≤ (y372.length : Int) then ((spec_l1Cur_among.f l0 bt375.2.1 bt375.2.2 (y372.take ((wrap64 (4 + (wrap64 (Int.tdiv bt375.1 11)))) : Int).toNat)).bind fun bt382 => ((spec_l1Cur_hour20.f l0 bt382.2.1 bt382.2.2).bind fun bt385 => (some (bt364.1,bt369.1,bt382.1,bt385.1)))) else (none)) else (none)))))
theorem spec_DrawHeldHours.mono : ∀ a0 k,LeO (spec_DrawHeldHours.f k a0) (spec_DrawHeldHours.f (k + 1) a0):=by
 intro a0 k
 unfold spec_DrawHeldHours.f
 repeat' first
   | (with_reducible exact spec_l1Cur_anyId20.mono _ _ _ _)
   | (with_reducible exact spec_l1Cur_file.mono _ _ _ _)
   | (with_reducible exact LeO.refl _)
   | (with_reducible exact LeO.none _)
   | (with_reducible refine LeO.ite ?_ ?_)
   | (with_reducible refine LeO.bind ?_ (fun _ => ?_))
   | exact spec_l1Cur_anyId20.mono _ _ _ _
   | exact spec_l1Cur_file.mono _ _ _ _
   | exact LeO.none _
   | refine LeO.ite ?_ ?_
   | refine LeO.bind ?_ (fun _ => ?_)
set_option maxHeartbeats 8000000 in
set_option maxRecDepth 100000 in
theorem spec_DrawHeldHours.calls (k : Nat) (A0 : Option Addr) (c0 : Nat) (l0 : List Int) (r1 : List (S26)) (r2 : ByteArray) (r3 : Int) (r4 : Int) (w : World) (hr0 : Kd.C (Kd.int .u8) w A0 l0.length l0) (hc0 : l0.length ≤ c0) (h : spec_DrawHeldHours.f k l0 = some (r1,r2,r3,r4)) :
  Calls Try.prog 13 #[.slice A0 l0.length c0] w fun e w' => ∃ v0_ : Value,e = .returned (.tuple #[v0_, .string r2, .int .i64 r3, .int .i64 r4]) ∧ Kd.Q k26 26 w' w.heap.size (fun _ => True) v0_ r1 ∧ Below w.heap.size w w':=by
 have hu44:=Try.underlying44
 have HR0:=Aside0.mk hr0
 have HC0:=Aside0.mk hc0
 clear hr0 hc0
 have HB:=Aside0.mk (Below.refl w.heap.size w)
 have H : ((spec_l1Cur_file.f k l0 0 0).bind fun bt364 => ((spec_l1Cur_anyId20.f k l0 bt364.2.1 bt364.2.2).bind fun bt369 => ((some (([1,2,4,8,3,0] : List Int) : List Int)).bind fun y372 => ((spec_l1Cur_pick.f l0 bt369.2.1 bt369.2.2 24).bind fun bt375 => (if 0 ≤ (wrap64 (4 + (wrap64 (Int.tdiv bt375.1 11)))) then (if (wrap64 (4 + (wrap64 (Int.tdiv bt375.1 11)))) ≤ (y372.length : Int) then ((spec_l1Cur_among.f l0 bt375.2.1 bt375.2.2 (y372.take ((wrap64 (4 + (wrap64 (Int.tdiv bt375.1 11)))) : Int).toNat)).bind fun bt382 => ((spec_l1Cur_hour20.f l0 bt382.2.1 bt382.2.2).bind fun bt385 => (some (bt364.1,bt369.1,bt382.1,bt385.1)))) else (none)) else (none)))))) = some (r1,r2,r3,r4):=h
 clear h
 replace H:=Option.bind_eq_some_iff.mp H
 obtain ⟨⟨t364,t367,t368⟩,A20,H⟩ := H
 replace H : ((spec_l1Cur_anyId20.f k l0 t367 t368).bind fun bt369 => ((some (([1,2,4,8,3,0] : List Int) : List Int)).bind fun y372 => ((spec_l1Cur_pick.f l0 bt369.2.1 bt369.2.2 24).bind fun bt375 => (if 0 ≤ (wrap64 (4 + (wrap64 (Int.tdiv bt375.1 11)))) then (if (wrap64 (4 + (wrap64 (Int.tdiv bt375.1 11)))) ≤ (y372.length : Int) then ((spec_l1Cur_among.f l0 bt375.2.1 bt375.2.2 (y372.take ((wrap64 (4 + (wrap64 (Int.tdiv bt375.1 11)))) : Int).toNat)).bind fun bt382 => ((spec_l1Cur_hour20.f l0 bt382.2.1 bt382.2.2).bind fun bt385 => (some (t364,bt369.1,bt382.1,bt385.1)))) else (none)) else (none))))) = some (r1,r2,r3,r4):=H
 have A2:=Aside0.mk A20
 clear A20
 replace H:=Option.bind_eq_some_iff.mp H
 obtain ⟨⟨t369,t370,t371⟩,A30,H⟩ := H
 replace H : ((some (([1,2,4,8,3,0] : List Int) : List Int)).bind fun y372 => ((spec_l1Cur_pick.f l0 t370 t371 24).bind fun bt375 => (if 0 ≤ (wrap64 (4 + (wrap64 (Int.tdiv bt375.1 11)))) then (if (wrap64 (4 + (wrap64 (Int.tdiv bt375.1 11)))) ≤ (y372.length : Int) then ((spec_l1Cur_among.f l0 bt375.2.1 bt375.2.2 (y372.take ((wrap64 (4 + (wrap64 (Int.tdiv bt375.1 11)))) : Int).toNat)).bind fun bt382 => ((spec_l1Cur_hour20.f l0 bt382.2.1 bt382.2.2).bind fun bt385 => (some (t364,t369,bt382.1,bt385.1)))) else (none)) else (none)))) = some (r1,r2,r3,r4):=H
 have A3:=Aside0.mk A30
 clear A30
 obtain ⟨y372,hy372⟩ : ∃ y_ : List Int,y_ = (([1,2,4,8,3,0] : List Int)):=⟨_,rfl⟩
 replace H : ((spec_l1Cur_pick.f l0 t370 t371 24).bind fun bt375 => (if 0 ≤ (wrap64 (4 + (wrap64 (Int.tdiv bt375.1 11)))) then (if (wrap64 (4 + (wrap64 (Int.tdiv bt375.1 11)))) ≤ (y372.length : Int) then ((spec_l1Cur_among.f l0 bt375.2.1 bt375.2.2 (y372.take ((wrap64 (4 + (wrap64 (Int.tdiv bt375.1 11)))) : Int).toNat)).bind fun bt382 => ((spec_l1Cur_hour20.f l0 bt382.2.1 bt382.2.2).bind fun bt385 => (some (t364,t369,bt382.1,bt385.1)))) else (none)) else (none))) = some (r1,r2,r3,r4):=by (have H2_:=(Option.bind_some _ _).symm.trans H;rw [hy372];with_reducible exact H2_)
 have Ny372:=Aside0.mk hy372
 clear hy372
 replace H:=Option.bind_eq_some_iff.mp H
 obtain ⟨⟨t375,t376,t377⟩,A40,H⟩ := H
 replace H : (if 0 ≤ (wrap64 (4 + (wrap64 (Int.tdiv t375 11)))) then (if (wrap64 (4 + (wrap64 (Int.tdiv t375 11)))) ≤ (y372.length : Int) then ((spec_l1Cur_among.f l0 t376 t377 (y372.take ((wrap64 (4 + (wrap64 (Int.tdiv t375 11)))) : Int).toNat)).bind fun bt382 => ((spec_l1Cur_hour20.f l0 bt382.2.1 bt382.2.2).bind fun bt385 => (some (t364,t369,bt382.1,bt385.1)))) else (none)) else (none)) = some (r1,r2,r3,r4):=H
 have A4:=Aside0.mk A40
 clear A40
 obtain ⟨ji5,hji5⟩ : ∃ j_ : Int,(wrap64 (4 + (wrap64 (Int.tdiv t375 11)))) = j_:=⟨_,rfl⟩
 replace H : (if 0 ≤ (ji5) then (if (ji5) ≤ (y372.length : Int) then ((spec_l1Cur_among.f l0 t376 t377 (y372.take ((ji5) : Int).toNat)).bind fun bt382 => ((spec_l1Cur_hour20.f l0 bt382.2.1 bt382.2.2).bind fun bt385 => (some (t364,t369,bt382.1,bt385.1)))) else (none)) else (none)) = some (r1,r2,r3,r4):=by (rw [hji5] at H;exact H)
 (skip)
 (skip)
 (skip)
 have hji5w : (IntKind.i64.wrap (4 + (wrap64 (Int.tdiv t375 11)))) = ji5:=(i64_w _).trans hji5
 by_cases c6 : 0 ≤ (ji5)
 ·rw [if_pos c6] at H
  have c6b0:=eq_true c6
  have c6b1 : decide (0 ≤ (ji5)) = true:=decide_eq_true c6
  clear c6
  by_cases c7 : (ji5) ≤ (y372.length : Int)
  ·rw [if_pos c7] at H
   have c7b0:=eq_true c7
   have c7b1 : decide ((ji5) ≤ (y372.length : Int)) = true:=decide_eq_true c7
   clear c7
   obtain ⟨y378,hy378⟩ : ∃ y_ : List Int,y_ = (y372.take ((ji5) : Int).toNat):=⟨_,rfl⟩
   replace H : ((spec_l1Cur_among.f l0 t376 t377 y378).bind fun bt382 => ((spec_l1Cur_hour20.f l0 bt382.2.1 bt382.2.2).bind fun bt385 => (some (t364,t369,bt382.1,bt385.1)))) = some (r1,r2,r3,r4):=by (rw [hy378];with_reducible exact H)
   have Ny378:=Aside0.mk hy378
   clear hy378
   replace H:=Option.bind_eq_some_iff.mp H
   obtain ⟨⟨t382,t383,t384⟩,A80,H⟩ := H
   replace H : ((spec_l1Cur_hour20.f l0 t383 t384).bind fun bt385 => (some (t364,t369,t382,bt385.1))) = some (r1,r2,r3,r4):=H
   have A8:=Aside0.mk A80
   clear A80
   replace H:=Option.bind_eq_some_iff.mp H
   obtain ⟨⟨t385,t386,t387⟩,A90,H⟩ := H
   replace H : (some (t364,t369,t382,t385)) = some (r1,r2,r3,r4):=H
   have A9:=Aside0.mk A90
   clear A90
   simp only [Option.some.injEq,Prod.mk.injEq] at H
   obtain ⟨rfl,rfl,rfl,rfl⟩ := H
   go_enter Try.func13,Try.ntmps13
   go_wp2_with (first | ((with_reducible refine gate_dst (N:=10) rfl ?_);refine box_event ?hg (N:=10) ?hd (cs:=#[.slice A0 l0.length c0, .int .i64 0, .int .u64 0]) (t:=44) ?hr ?_;(case hd => rfl);(case hg => rfl);(case hr => (go_simp;done));intro gb363 hg w10 hbox hb;have n0_:=Aside0.mk (below_step (by exact HB.out) hb);have n1_:=Aside0.mk ((show IsS44 w _ gb363 l0 0 0 from ⟨_,_,hbox,(by rw [hg];exact (below_size (by exact HB.out)) : w.heap.size ≤ gb363),HR0.out⟩));clear HB;have HB:=n0_;have HI363:=n1_;clear n0_ n1_;clear hb hbox hg) | ((with_reducible refine gate_callee (f:=19) rfl ?_);refine goesL_ (some 12) rfl rfl Try.func19 (by kernel_rfl) rfl #[.pointer (some ⟨gb363,0,none⟩)] rfl (by (try simp only [List.map_toArray,List.map_cons,List.map_nil]);rfl) ?_;(with_reducible refine (spec_l1Cur_file.calls k gb363 l0 0 0 t364 t367 t368 w _ ?side1 ?side2 A2.out).mono ?_);(case side1 => exact HI363.out);(case side2 => exact HB.out);rintro e w11 ⟨v365,rfl,ho0,hi,hb,hk⟩;refine ⟨_,rfl, ?_⟩;have n0_:=Aside0.mk (Kd.Q_lower ho0 (below_size (by exact HB.out)));have n1_:=Aside0.mk (hb);have n2_:=Aside0.mk (hi);clear HB;clear HI363;have HO366:=n0_;have HB:=n1_;have HI363:=n2_;clear n0_ n1_ n2_;(try clear hb);(try clear hk);(try clear hi);(try clear ho0)) | ((with_reducible refine gate_callee (f:=21) rfl ?_);refine goesL_ (some 15) rfl rfl Try.func21 (by kernel_rfl) rfl #[.pointer (some ⟨gb363,0,none⟩)] rfl (by (try simp only [List.map_toArray,List.map_cons,List.map_nil]);rfl) ?_;(with_reducible refine (spec_l1Cur_anyId20.calls k gb363 l0 t367 t368 t369 t370 t371 w _ ?side1 ?side2 A3.out).mono ?_);(case side1 => exact HI363.out);(case side2 => exact HB.out);rintro e w12 ⟨rfl,hi,hb,hk⟩;refine ⟨_,rfl, ?_⟩;have n0_:=Aside0.mk (Kd.Q_mono (Kd.Q_keep (IsS44.apartQ (show IsS44 w _ gb363 l0 t367 t368 from by exact HI363.out) (by exact HO366.out) (by decide)) hk (fun _ h => h.2)) (fun _ h => h.1));have n1_:=Aside0.mk (hb);have n2_:=Aside0.mk (hi);clear HO366;clear HB;clear HI363;have HO366:=n0_;have HB:=n1_;have HI363:=n2_;clear n0_ n1_ n2_;(try clear hb);(try clear hk);(try clear hi)) | ((with_reducible refine gate_dst (N:=17) rfl ?_);refine Kd.R_lit (Kd.int .i64) _ 3 ?hg (N:=17) ?hd (xs:=([1,2,4,8,3,0] : List Int)) (inner := [.int .i64 1, .int .i64 2, .int .i64 4, .int .i64 8, .int .i64 3, .int .i64 0]) (ok:=fun _ => True) (okp:=fun _ => True) ?hr ?hp (fun _ hk => hk) trivial (Below.refl _ _) (Nat.le_refl _) (by simp) ?_;(case hd => rfl);(case hg => rfl);(case hr => (go_simp;done));(case hp => exact (Reps.one (show Kd.M (Kd.int .i64) _ _ _ 1 [.int .i64 1] from rfl) (Reps.one (show Kd.M (Kd.int .i64) _ _ _ 2 [.int .i64 2] from rfl) (Reps.one (show Kd.M (Kd.int .i64) _ _ _ 4 [.int .i64 4] from rfl) (Reps.one (show Kd.M (Kd.int .i64) _ _ _ 8 [.int .i64 8] from rfl) (Reps.one (show Kd.M (Kd.int .i64) _ _ _ 3 [.int .i64 3] from rfl) (Reps.one (show Kd.M (Kd.int .i64) _ _ _ 0 [.int .i64 0] from rfl) (Reps.none _ _))))))));intro v373 w13 ho14 hb hg_ hnew_;clear hg_ hnew_;(rw [← Ny372.out] at ho14);have n0_:=Aside0.mk (Kd.Q_below (by exact HO366.out) hb);have n1_:=Aside0.mk (Kd.R_lower ho14 (below_size (by exact HB.out)));have n2_:=Aside0.mk (IsS44.below (by exact HI363.out) hb);have n3_:=Aside0.mk (below_step (by exact HB.out) hb);clear HO366;clear HI363;clear HB;have HO366:=n0_;have HO374:=n1_;have HI363:=n2_;have HB:=n3_;clear n0_ n1_ n2_ n3_;clear hb ho14) | ((with_reducible refine gate_callee (f:=26) rfl ?_);refine goesL_ (some 19) rfl rfl Try.func26 (by kernel_rfl) rfl #[.pointer (some ⟨gb363,0,none⟩), .int .i64 24] rfl (by (try simp only [List.map_toArray,List.map_cons,List.map_nil]);rfl) ?_;(with_reducible refine (spec_l1Cur_pick.calls gb363 l0 t370 t371 24 t375 t376 t377 w _ ?side1 ?side2 A4.out).mono ?_);(case side1 => exact HI363.out);(case side2 => exact HB.out);rintro e w15 ⟨rfl,hi,hb,hk⟩;refine ⟨_,rfl, ?_⟩;have n0_:=Aside0.mk (Kd.Q_mono (Kd.Q_keep (IsS44.apartQ (show IsS44 w _ gb363 l0 t370 t371 from by exact HI363.out) (by exact HO366.out) (by decide)) hk (fun _ h => h.2)) (fun _ h => h.1));have n1_:=Aside0.mk (Kd.R_mono (Kd.R_keep (IsS44.apart (show IsS44 w _ gb363 l0 t370 t371 from by exact HI363.out) (by exact HO374.out) (by decide)) hk (fun _ h => h.2)) (fun _ h => h.1));have n2_:=Aside0.mk (hb);have n3_:=Aside0.mk (hi);clear HO366;clear HO374;clear HB;clear HI363;have HO366:=n0_;have HO374:=n1_;have HB:=n2_;have HI363:=n3_;clear n0_ n1_ n2_ n3_;(try clear hb);(try clear hk);(try clear hi);obtain ⟨Ao17,co17,eo17⟩ := Kd.R_slice HO374.out;subst eo17;have q16 : ((ji5) : Int) ≤ ((y372.length : Int) : Int):=of_decide_eq_true (by (with_reducible assumption));obtain ⟨i016,hi016,_,hsz16,_⟩ := info_parts info3;have hroom16 : y372.length ≤ co17:=(Kd.R_reads' HO374.out).2.1;have hC16 : Kd.C (Kd.int .i64) _ Ao17 y372.length y372:=(Kd.R_reads' HO374.out).2.2;have hcut16:=cut_to (P:=Try.prog) 50 3 .i64 Try.underlying50 hi016 Ao17 y372.length co17 (ji5) (of_decide_eq_true (by (with_reducible assumption))) q16 hroom16;have hr16:=Kd.C_take (m:=((ji5) : Int).toNat) hC16 (by omega);have hy16 : y378.length = ((ji5) : Int).toNat:=(by rw [Ny378.out,List.length_take];omega);rw [← Ny378.out] at hr16;rw [← hy16] at hcut16;have HR381:=Aside0.mk hr16;have HC381:=Aside0.mk (show y378.length ≤ co17 from by omega);clear hr16 hC16 hroom16 hi016 hsz16;have KY16:=Aside0.mk hy16;clear hy16;have KL16:=Aside0.mk (show ((ji5) : Int).toNat ≤ y372.length from by omega);replace q16:=eq_true q16) | ((with_reducible refine gate_callee (f:=23) rfl ?_);refine goesL_ (some 23) rfl rfl Try.func23 (by kernel_rfl) rfl #[.pointer (some ⟨gb363,0,none⟩), .slice Ao17 y378.length co17] rfl (by (try simp only [List.map_toArray,List.map_cons,List.map_nil]);rfl) ?_;(with_reducible refine (spec_l1Cur_among.calls gb363 l0 t376 t377 _ _ y378 t382 t383 t384 w _ ?side1 ?side2 ?side3 ?side4 ?side5 A8.out).mono ?_);(case side1 => exact HI363.out);(case side2 => exact HB.out);(case side3 => repeat (exact (by exact HR381.out)));(case side4 => exact HC381.out);(case side5 => intro ad_ he_ hn_;exact far_slice (IsS44.own_ne HI363.out HO374.out (by decide)) ad_ he_ (by have h1_:=KL16.out;have h2_:=KY16.out;omega));rintro e w18 ⟨rfl,hi,hb,hk⟩;refine ⟨_,rfl, ?_⟩;have n0_:=Aside0.mk (Kd.Q_mono (Kd.Q_keep (IsS44.apartQ (show IsS44 w _ gb363 l0 t376 t377 from by exact HI363.out) (by exact HO366.out) (by decide)) hk (fun _ h => h.2)) (fun _ h => h.1));have n1_:=Aside0.mk (Kd.R_mono (Kd.R_keep (IsS44.apart (show IsS44 w _ gb363 l0 t376 t377 from by exact HI363.out) (by exact HO374.out) (by decide)) hk (fun _ h => h.2)) (fun _ h => h.1));have n2_:=Aside0.mk (hb);have n3_:=Aside0.mk (hi);clear HO366;clear HO374;clear HB;clear HI363;have HO366:=n0_;have HO374:=n1_;have HB:=n2_;have HI363:=n3_;clear n0_ n1_ n2_ n3_;(try clear hb);(try clear hk);(try clear hi)) | ((with_reducible refine gate_callee (f:=20) rfl ?_);refine goesL_ (some 25) rfl rfl Try.func20 (by kernel_rfl) rfl #[.pointer (some ⟨gb363,0,none⟩)] rfl (by (try simp only [List.map_toArray,List.map_cons,List.map_nil]);rfl) ?_;(with_reducible refine (spec_l1Cur_hour20.calls gb363 l0 t383 t384 t385 t386 t387 w _ ?side1 ?side2 A9.out).mono ?_);(case side1 => exact HI363.out);(case side2 => exact HB.out);rintro e w19 ⟨rfl,hi,hb,hk⟩;refine ⟨_,rfl, ?_⟩;have n0_:=Aside0.mk (Kd.Q_mono (Kd.Q_keep (IsS44.apartQ (show IsS44 w _ gb363 l0 t383 t384 from by exact HI363.out) (by exact HO366.out) (by decide)) hk (fun _ h => h.2)) (fun _ h => h.1));have n1_:=Aside0.mk (Kd.R_mono (Kd.R_keep (IsS44.apart (show IsS44 w _ gb363 l0 t383 t384 from by exact HI363.out) (by exact HO374.out) (by decide)) hk (fun _ h => h.2)) (fun _ h => h.1));have n2_:=Aside0.mk (hb);have n3_:=Aside0.mk (hi);clear HO366;clear HO374;clear HB;clear HI363;have HO366:=n0_;have HO374:=n1_;have HB:=n2_;have HI363:=n3_;clear n0_ n1_ n2_ n3_;(try clear hb);(try clear hk);(try clear hi)))
   refine bodyPost_ret (results_list (rs := [.tmp 2, .tmp 3, .tmp 4, .tmp 5]) rfl (by simp) (.tmp (.tmp (.tmp (.tmp .nil))))) rfl ?_
   exact ⟨_,by rfl,by exact HO366.out,by exact HB.out⟩
  ·rw [if_neg c7] at H
   exact absurd H (by simp)
 ·rw [if_neg c6] at H
  exact absurd H (by simp)

/-! ### impl_isFileAt: function 28 -/
def impl_isFileAt.f (k : Nat) (l0 : List (S26)) (a1 : ByteArray) (a2 : Int) : Option (Bool):=(impl_IsValidFile.f k l0).bind fun t388 => (if t388 = true then ((impl_IsValidId.f k a1).bind fun t389 => (if t389 = true then ((impl_within.f a2 0 240).bind fun t390 => (some t390)) else (some false))) else (some false))
theorem impl_isFileAt.mono : ∀ a0 a1 a2 k,LeO (impl_isFileAt.f k a0 a1 a2) (impl_isFileAt.f (k + 1) a0 a1 a2):=by
 intro a0 a1 a2 k
 unfold impl_isFileAt.f
 repeat' first
   | (with_reducible exact impl_IsValidFile.mono _ _)
   | (with_reducible exact impl_IsValidId.mono _ _)
   | (with_reducible exact LeO.refl _)
   | (with_reducible exact LeO.none _)
   | (with_reducible refine LeO.ite ?_ ?_)
   | (with_reducible refine LeO.bind ?_ (fun _ => ?_))
   | exact impl_IsValidFile.mono _ _
   | exact impl_IsValidId.mono _ _
   | exact LeO.none _
   | refine LeO.ite ?_ ?_
   | refine LeO.bind ?_ (fun _ => ?_)
set_option maxHeartbeats 8000000 in
set_option maxRecDepth 100000 in
theorem impl_isFileAt.calls (k : Nat) (A0 : Option Addr) (c0 : Nat) (l0 : List (S26)) (a1 : ByteArray) (a2 : Int) (r : Bool) (w : World) (hr0 : Kd.C k26 w A0 l0.length l0) (hc0 : l0.length ≤ c0) (h : impl_isFileAt.f k l0 a1 a2 = some r) :
  Calls Try.prog 28 #[.slice A0 l0.length c0, .string a1, .int .i64 a2] w fun e w' => e = .returned (.bool r) ∧ Below w.heap.size w w':=by
 have HR0:=Aside0.mk hr0
 have HC0:=Aside0.mk hc0
 clear hr0 hc0
 have HB:=Aside0.mk (Below.refl w.heap.size w)
 have H : ((impl_IsValidFile.f k l0).bind fun t388 => (if t388 = true then ((impl_IsValidId.f k a1).bind fun t389 => (if t389 = true then ((impl_within.f a2 0 240).bind fun t390 => (some t390)) else (some false))) else (some false))) = some r:=h
 clear h
 replace H:=Option.bind_eq_some_iff.mp H
 obtain ⟨t388,A40,H⟩ := H
 replace H : (if t388 = true then ((impl_IsValidId.f k a1).bind fun t389 => (if t389 = true then ((impl_within.f a2 0 240).bind fun t390 => (some t390)) else (some false))) else (some false)) = some r:=H
 have A4:=Aside0.mk A40
 clear A40
 by_cases c5 : t388 = true
 ·subst c5
  have H1 : ((impl_IsValidId.f k a1).bind fun t389 => (if t389 = true then ((impl_within.f a2 0 240).bind fun t390 => (some t390)) else (some false))) = some r:=by rw [if_pos rfl] at H;exact H
  clear H
  have H:=H1
  clear H1
  replace H:=Option.bind_eq_some_iff.mp H
  obtain ⟨t389,A60,H⟩ := H
  replace H : (if t389 = true then ((impl_within.f a2 0 240).bind fun t390 => (some t390)) else (some false)) = some r:=H
  have A6:=Aside0.mk A60
  clear A60
  by_cases c7 : t389 = true
  ·subst c7
   have H1 : ((impl_within.f a2 0 240).bind fun t390 => (some t390)) = some r:=by rw [if_pos rfl] at H;exact H
   clear H
   have H:=H1
   clear H1
   replace H:=Option.bind_eq_some_iff.mp H
   obtain ⟨t390,A80,H⟩ := H
   replace H : (some t390) = some r:=H
   have A8:=Aside0.mk A80
   clear A80
   obtain rfl:=Option.some.inj H
   go_enter Try.func28,Try.ntmps28
   go_wp2_with (first | ((with_reducible refine gate_callee (f:=12) rfl ?_);refine goesL_ (some 8) rfl rfl Try.func12 (by kernel_rfl) rfl #[.slice A0 l0.length c0] rfl (by (try simp only [List.map_toArray,List.map_cons,List.map_nil]);rfl) ?_;(with_reducible refine (impl_IsValidFile.calls k _ _ l0 true _ ?side1 ?side2 A4.out).mono ?_);(case side1 => repeat (exact HR0.out));(case side2 => exact HC0.out);rintro e w9 ⟨rfl,hb⟩;refine ⟨_,rfl, ?_⟩;have n0_:=Aside0.mk (below_step (by exact HB.out) hb);clear HB;have HB:=n0_;clear n0_;(try clear hb)) | (go_at_call 43;(with_reducible refine (impl_IsValidId.calls k a1 true _ A6.out).mono ?_);rintro e w' ⟨rfl,⟨nd,rfl⟩⟩) | (go_at_call 42;(with_reducible refine (impl_within.calls a2 0 240 t390 _ A8.out).mono ?_);rintro e w' ⟨rfl,⟨nd,rfl⟩⟩))
   go_ret
   exact ⟨by rfl,by repeat ((with_reducible first | exact HB.out | apply pw_below_drewN))⟩
  ·replace c7:=Bool.eq_false_iff.mpr c7
   subst c7
   have H1 : (some false) = some r:=by rw [if_neg (show ¬ (false = true) by decide)] at H;exact H
   clear H
   have H:=H1
   clear H1
   obtain rfl:=Option.some.inj H
   go_enter Try.func28,Try.ntmps28
   go_wp2_with (first | ((with_reducible refine gate_callee (f:=12) rfl ?_);refine goesL_ (some 8) rfl rfl Try.func12 (by kernel_rfl) rfl #[.slice A0 l0.length c0] rfl (by (try simp only [List.map_toArray,List.map_cons,List.map_nil]);rfl) ?_;(with_reducible refine (impl_IsValidFile.calls k _ _ l0 true _ ?side1 ?side2 A4.out).mono ?_);(case side1 => repeat (exact HR0.out));(case side2 => exact HC0.out);rintro e w10 ⟨rfl,hb⟩;refine ⟨_,rfl, ?_⟩;have n0_:=Aside0.mk (below_step (by exact HB.out) hb);clear HB;have HB:=n0_;clear n0_;(try clear hb)) | (go_at_call 43;(with_reducible refine (impl_IsValidId.calls k a1 false _ A6.out).mono ?_);rintro e w' ⟨rfl,⟨nd,rfl⟩⟩))
   go_ret
   exact ⟨by rfl,by repeat ((with_reducible first | exact HB.out | apply pw_below_drewN))⟩
 ·replace c5:=Bool.eq_false_iff.mpr c5
  subst c5
  have H1 : (some false) = some r:=by rw [if_neg (show ¬ (false = true) by decide)] at H;exact H
  clear H
  have H:=H1
  clear H1
  obtain rfl:=Option.some.inj H
  go_enter Try.func28,Try.ntmps28
  go_wp2_with (((with_reducible refine gate_callee (f:=12) rfl ?_);refine goesL_ (some 8) rfl rfl Try.func12 (by kernel_rfl) rfl #[.slice A0 l0.length c0] rfl (by (try simp only [List.map_toArray,List.map_cons,List.map_nil]);rfl) ?_;(with_reducible refine (impl_IsValidFile.calls k _ _ l0 false _ ?side1 ?side2 A4.out).mono ?_);(case side1 => repeat (exact HR0.out));(case side2 => exact HC0.out);rintro e w11 ⟨rfl,hb⟩;refine ⟨_,rfl, ?_⟩;have n0_:=Aside0.mk (below_step (by exact HB.out) hb);clear HB;have HB:=n0_;clear n0_;(try clear hb)))
  go_ret
  exact ⟨by rfl,by exact HB.out⟩

/-! ### slices_Index_int: function 47 -/
def slices_Index_int.l0 : Nat → List Int → Int → Int → Int → Option (Int)
 | 0,_,_,_,_ => none
 | k + 1,x0,x1,x7,x8 => if x8 < x7 then (if 0 ≤ x8 then (if x8 < (x0.length : Int) then (if x1 = (rd x0 x8) then (some x8) else (slices_Index_int.l0 k x0 x1 x7 (wrap64 (x8 + 1)))) else (none)) else (none)) else (some (-1))
def slices_Index_int.f (k : Nat) (l0 : List Int) (a1 : Int) : Option (Int):=slices_Index_int.l0 k l0 a1 (l0.length : Int) 0
theorem slices_Index_int.mono_l : ∀ k,(∀ y0 y1 y2 y3,LeO (slices_Index_int.l0 k y0 y1 y2 y3) (slices_Index_int.l0 (k + 1) y0 y1 y2 y3))
 | 0 => fun _ _ _ _ r h => by simp [slices_Index_int.l0] at h
 | k + 1 => by
  have ih0:=slices_Index_int.mono_l k
  ·intro y0 y1 y2 y3
   unfold slices_Index_int.l0
   repeat' first
   | (with_reducible exact ih0 _ _ _ _)
   | (with_reducible exact LeO.refl _)
   | (with_reducible exact LeO.none _)
   | (with_reducible refine LeO.ite ?_ ?_)
   | (with_reducible refine LeO.bind ?_ (fun _ => ?_))
   | exact ih0 _ _ _ _
   | exact LeO.none _
   | refine LeO.ite ?_ ?_
   | refine LeO.bind ?_ (fun _ => ?_)
theorem slices_Index_int.mono : ∀ a0 a1 k,LeO (slices_Index_int.f k a0 a1) (slices_Index_int.f (k + 1) a0 a1):=by
 intro a0 a1 k
 have ih0:=slices_Index_int.mono_l k
 unfold slices_Index_int.f
 repeat' first
   | (with_reducible exact ih0 _ _ _ _)
   | (with_reducible exact LeO.refl _)
   | (with_reducible exact LeO.none _)
   | (with_reducible refine LeO.ite ?_ ?_)
   | (with_reducible refine LeO.bind ?_ (fun _ => ?_))
   | exact ih0 _ _ _ _
   | exact LeO.none _
   | refine LeO.ite ?_ ?_
   | refine LeO.bind ?_ (fun _ => ?_)
set_option maxHeartbeats 8000000 in
set_option maxRecDepth 100000 in
theorem slices_Index_int.calls (k : Nat) (A0 : Option Addr) (c0 : Nat) (l0 : List Int) (a1 : Int) (r : Int) (w : World) (hr0 : Kd.C (Kd.int .i64) w A0 l0.length l0) (hc0 : l0.length ≤ c0) (h : slices_Index_int.f k l0 a1 = some r) :
  Calls Try.prog 47 #[.slice A0 l0.length c0, .int .i64 a1] w fun e w' => e = .returned (.int .i64 r) ∧ Drawn0 w w':=by
 have HR0:=Aside0.mk hr0
 have HC0:=Aside0.mk hc0
 clear hr0 hc0
 have H : (slices_Index_int.l0 k l0 a1 (l0.length : Int) 0) = some r:=h
 clear h
 have H':=Aside0.mk H
 clear H
 go_enter Try.func47,Try.ntmps47
 go_wp2
 go_loopg [8] k (fun kq v8 w' => ∃ (x8_1 : Int),v8 = .int .i64 x8_1 ∧ Aside0 (slices_Index_int.l0 kq l0 a1 (l0.length : Int) x8_1 = some r) ∧ Aside0 (kq ≤ k) ∧ Drawn0 w w')
 case atStart => exact ⟨(0),(by rfl),H',⟨Nat.le_refl _⟩,by repeat (exact Drawn0.refl _)⟩
 case round =>
  clear H'
  try clear p2
  obtain ⟨x8_1,rfl,HA,HK1,⟨m1,rfl⟩⟩ := hrel
  cases gk with
  | zero => exact absurd HA.out (by simp [slices_Index_int.l0])
  | succ k1 =>
   have H:=HA.out
   clear HA
   simp only [slices_Index_int.l0] at H
   by_cases c3 : x8_1 < (l0.length : Int)
   ·rw [if_pos c3] at H
    have c3b0 : decide (x8_1 < (l0.length : Int)) = true:=decide_eq_true c3
    clear c3
    by_cases c4 : 0 ≤ x8_1
    ·rw [if_pos c4] at H
     have c4b0 : decide (0 ≤ x8_1) = true:=decide_eq_true c4
     clear c4
     by_cases c5 : x8_1 < (l0.length : Int)
     ·rw [if_pos c5] at H
      have c5b0 : decide (x8_1 < (l0.length : Int)) = true:=decide_eq_true c5
      clear c5
      by_cases c6 : a1 = (rd l0 x8_1)
      ·rw [if_pos c6] at H
       have c6b0 : (a1 == (rd l0 x8_1)) = true:=beq_iff_eq.mpr c6
       have c6b1 : (a1 != (rd l0 x8_1)) = false:=bne_eq_false_iff_eq.mpr c6
       clear c6
       obtain rfl:=Option.some.inj H
       have p391 : 0 ≤ (x8_1 : Int):=of_decide_eq_true (by (with_reducible assumption))
       have q391 : x8_1 < (l0.length : Int):=of_decide_eq_true (by (with_reducible assumption))
       obtain ⟨ad391,e391,hx391_0⟩ := Kd.at_int HR0.out x8_1 p391 q391
       cases e391
       replace p391:=eq_true p391
       replace q391:=eq_true q391
       go_wp2
       go_ret
       exact ⟨by rfl,by repeat (first | exact Drawn0.refl _ | apply Drawn0.step)⟩
      ·rw [if_neg c6] at H
       have c6b0 : (a1 == (rd l0 x8_1)) = false:=beq_eq_false_iff_ne.mpr c6
       have c6b1 : (a1 != (rd l0 x8_1)) = true:=bne_iff_ne.mpr c6
       have H':=Aside0.mk H
       clear H
       have p391 : 0 ≤ (x8_1 : Int):=of_decide_eq_true (by (with_reducible assumption))
       have q391 : x8_1 < (l0.length : Int):=of_decide_eq_true (by (with_reducible assumption))
       obtain ⟨ad391,e391,hx391_0⟩ := Kd.at_int HR0.out x8_1 p391 q391
       cases e391
       replace p391:=eq_true p391
       replace q391:=eq_true q391
       go_wp2
       go_roundg k1
       case measure => have:=HK1.out;omega
       case rel => exact ⟨(wrap64 (x8_1 + 1)),(by rfl),H',⟨by have:=HK1.out;omega⟩,by repeat (first | exact Drawn0.refl _ | apply Drawn0.step)⟩
     ·rw [if_neg c5] at H
      exact absurd H (by simp)
    ·rw [if_neg c4] at H
     exact absurd H (by simp)
   ·rw [if_neg c3] at H
    have c3b0 : decide (x8_1 < (l0.length : Int)) = false:=decide_eq_false c3
    clear c3
    obtain rfl:=Option.some.inj H
    go_wp2
    go_ret
    exact ⟨by rfl,by repeat (first | exact Drawn0.refl _ | apply Drawn0.step)⟩

/-! ### slices_Contains_int: function 44 -/
def slices_Contains_int.f (k : Nat) (l0 : List Int) (a1 : Int) : Option (Bool):=(slices_Index_int.f k l0 a1).bind fun t392 => (some (decide (t392 ≥ 0)))
theorem slices_Contains_int.mono : ∀ a0 a1 k,LeO (slices_Contains_int.f k a0 a1) (slices_Contains_int.f (k + 1) a0 a1):=by
 intro a0 a1 k
 unfold slices_Contains_int.f
 repeat' first
   | (with_reducible exact slices_Index_int.mono _ _ _)
   | (with_reducible exact LeO.refl _)
   | (with_reducible exact LeO.none _)
   | (with_reducible refine LeO.ite ?_ ?_)
   | (with_reducible refine LeO.bind ?_ (fun _ => ?_))
   | exact slices_Index_int.mono _ _ _
   | exact LeO.none _
   | refine LeO.ite ?_ ?_
   | refine LeO.bind ?_ (fun _ => ?_)
set_option maxHeartbeats 8000000 in
set_option maxRecDepth 100000 in
theorem slices_Contains_int.calls (k : Nat) (A0 : Option Addr) (c0 : Nat) (l0 : List Int) (a1 : Int) (r : Bool) (w : World) (hr0 : Kd.C (Kd.int .i64) w A0 l0.length l0) (hc0 : l0.length ≤ c0) (h : slices_Contains_int.f k l0 a1 = some r) :
  Calls Try.prog 44 #[.slice A0 l0.length c0, .int .i64 a1] w fun e w' => e = .returned (.bool r) ∧ Drawn0 w w':=by
 have HR0:=Aside0.mk hr0
 have HC0:=Aside0.mk hc0
 clear hr0 hc0
 have H : ((slices_Index_int.f k l0 a1).bind fun t392 => (some (decide (t392 ≥ 0)))) = some r:=h
 clear h
 replace H:=Option.bind_eq_some_iff.mp H
 obtain ⟨t392,A30,H⟩ := H
 replace H : (some (decide (t392 ≥ 0))) = some r:=H
 have A3:=Aside0.mk A30
 clear A30
 obtain rfl:=Option.some.inj H
 go_enter Try.func44,Try.ntmps44
 go_wp2_with (((with_reducible refine gate_callee (f:=47) rfl ?_);refine goesL_ (some 7) rfl rfl Try.func47 (by kernel_rfl) rfl #[.slice A0 l0.length c0, .int .i64 a1] rfl (by (try simp only [List.map_toArray,List.map_cons,List.map_nil]);rfl) ?_;(with_reducible refine (slices_Index_int.calls k _ _ l0 a1 t392 _ ?side1 ?side2 A3.out).mono ?_);(case side1 => repeat (exact HR0.out));(case side2 => exact HC0.out);rintro e w' ⟨rfl,⟨nd,rfl⟩⟩;refine ⟨_,rfl, ?_⟩))
 go_ret
 exact ⟨by rfl,by repeat (first | exact Drawn0.refl _ | apply Drawn0.step)⟩

/-! ### impl_isHold: function 29 -/
def impl_isHold.f (k : Nat) (a0 : Int) : Option (Bool):=(slices_Contains_int.f k (([1,2,4,8] : List Int)) a0).bind fun t396 => (some t396)
theorem impl_isHold.mono : ∀ a0 k,LeO (impl_isHold.f k a0) (impl_isHold.f (k + 1) a0):=by
 intro a0 k
 unfold impl_isHold.f
 repeat' first
   | (with_reducible exact slices_Contains_int.mono _ _ _)
   | (with_reducible exact LeO.refl _)
   | (with_reducible exact LeO.none _)
   | (with_reducible refine LeO.ite ?_ ?_)
   | (with_reducible refine LeO.bind ?_ (fun _ => ?_))
   | exact slices_Contains_int.mono _ _ _
   | exact LeO.none _
   | refine LeO.ite ?_ ?_
   | refine LeO.bind ?_ (fun _ => ?_)
set_option maxHeartbeats 8000000 in
set_option maxRecDepth 100000 in
theorem impl_isHold.calls (k : Nat) (a0 : Int) (r : Bool) (w : World) (h : impl_isHold.f k a0 = some r) :
  Calls Try.prog 29 #[.int .i64 a0] w fun e w' => e = .returned (.bool r) ∧ Below w.heap.size w w':=by
 have HB:=Aside0.mk (Below.refl w.heap.size w)
 have H : ((slices_Contains_int.f k (([1,2,4,8] : List Int)) a0).bind fun t396 => (some t396)) = some r:=h
 clear h
 obtain ⟨y393,hy393⟩ : ∃ y_ : List Int,y_ = (([1,2,4,8] : List Int)):=⟨_,rfl⟩
 replace H : ((slices_Contains_int.f k y393 a0).bind fun t396 => (some t396)) = some r:=by (rw [hy393];with_reducible exact H)
 have Ny393:=Aside0.mk hy393
 clear hy393
 replace H:=Option.bind_eq_some_iff.mp H
 obtain ⟨t396,A20,H⟩ := H
 replace H : (some t396) = some r:=H
 have A2:=Aside0.mk A20
 clear A20
 obtain rfl:=Option.some.inj H
 go_enter Try.func29,Try.ntmps29
 go_wp2_with (first | ((with_reducible refine gate_dst (N:=3) rfl ?_);refine Kd.R_lit (Kd.int .i64) _ 3 ?hg (N:=3) ?hd (xs:=([1,2,4,8] : List Int)) (inner := [.int .i64 1, .int .i64 2, .int .i64 4, .int .i64 8]) (ok:=fun _ => True) (okp:=fun _ => True) ?hr ?hp (fun _ hk => hk) trivial (Below.refl _ _) (Nat.le_refl _) (by simp) ?_;(case hd => rfl);(case hg => rfl);(case hr => (go_simp;done));(case hp => exact (Reps.one (show Kd.M (Kd.int .i64) _ _ _ 1 [.int .i64 1] from rfl) (Reps.one (show Kd.M (Kd.int .i64) _ _ _ 2 [.int .i64 2] from rfl) (Reps.one (show Kd.M (Kd.int .i64) _ _ _ 4 [.int .i64 4] from rfl) (Reps.one (show Kd.M (Kd.int .i64) _ _ _ 8 [.int .i64 8] from rfl) (Reps.none _ _))))));intro v394 w3 ho4 hb hg_ hnew_;clear hg_ hnew_;(rw [← Ny393.out] at ho4);have n0_:=Aside0.mk (Kd.R_lower ho4 (below_size (by exact HB.out)));have n1_:=Aside0.mk (below_step (by exact HB.out) hb);clear HB;have HO395:=n0_;have HB:=n1_;clear n0_ n1_;clear hb ho4;obtain ⟨Ao5,co5,eo5⟩ := Kd.R_slice HO395.out;subst eo5) | ((with_reducible refine gate_callee (f:=44) rfl ?_);refine goesL_ (some 5) rfl rfl Try.func44 (by kernel_rfl) rfl #[.slice Ao5 y393.length co5, .int .i64 a0] rfl (by (try simp only [List.map_toArray,List.map_cons,List.map_nil]);rfl) ?_;(with_reducible refine (slices_Contains_int.calls k _ _ y393 a0 t396 _ ?side1 ?side2 A2.out).mono ?_);(case side1 => repeat (exact (Kd.R_reads' HO395.out).2.2));(case side2 => exact (Kd.R_reads' HO395.out).2.1);rintro e w' ⟨rfl,⟨nd,rfl⟩⟩;refine ⟨_,rfl, ?_⟩))
 go_ret
 exact ⟨by rfl,by repeat ((with_reducible first | exact HB.out | apply pw_below_drewN))⟩

end Go.Proofs.Ytcjhmkhhhkcgkaa.PFnFiles
