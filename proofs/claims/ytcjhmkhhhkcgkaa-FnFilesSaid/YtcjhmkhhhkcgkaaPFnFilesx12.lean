-- Written by a program of this session, over the kit's print (wip/xprint.py)
import Derived.Test.YtcjhmkhhhkcgkaaPFnFilesx0
import Derived.Test.YtcjhmkhhhkcgkaaPFnFilesx2
import Derived.Test.YtcjhmkhhhkcgkaaPFnFilesx3
import Derived.Test.YtcjhmkhhhkcgkaaPFnFilesx6
import Derived.Test.YtcjhmkhhhkcgkaaPFnFilesx7
import Derived.Test.YtcjhmkhhhkcgkaaPFnFilesx8
import Derived.Test.YtcjhmkhhhkcgkaaPFnFilesx11
namespace Go.Proofs.Ytcjhmkhhhkcgkaa.PFnFiles
open Go.RowKit Go.Proofs.YtcjhmkhhhkcgkaaW.PrintWords Go.Proofs.YtcjhmkhhhkcgkaaW.PrintLast Go.Proofs.YtcjhmkhhhkcgkaaW.PrintMore
attribute [local go_sem] max2_int min2_int max_two min_two max_three min_three max_four min_four   -- for this text's walks alone
set_option linter.unusedVariables false
set_option linter.unusedSimpArgs false

/-! ### spec_HeldHours: function 15 -/
mutual
def spec_HeldHours.j0 : Nat → List (S26) → ByteArray → Int → Int → Bool → Option (Int × Bool)
 | 0,_,_,_,_,_ => none
 | k + 1,x0,x1,x2,x3,x30 => if x30 = true then (some (0,false)) else (spec_HeldHours.l0 k x0 x1 x2 x3 0 0)
def spec_HeldHours.l0 : Nat → List (S26) → ByteArray → Int → Int → Int → Int → Option (Int × Bool)
 | 0,_,_,_,_,_,_ => none
 | k + 1,x0,x1,x2,x3,x10,x11 => if x11 < x3 then ((spec_l20By.f k x0 x11).bind fun t412 => ((spec_l20At.f k x0 t412 x1).bind fun t413 => (if (Go.bits .and .i64 t413 x2) = 0 then (spec_HeldHours.l0 k x0 x1 x2 x3 x10 (wrap64 (x11 + 1))) else (spec_HeldHours.l0 k x0 x1 x2 x3 (wrap64 (x10 + 1)) (wrap64 (x11 + 1)))))) else (some (x10,true))
end
def spec_HeldHours.f (k : Nat) (l0 : List (S26)) (a1 : ByteArray) (a2 : Int) (a3 : Int) : Option (Int × Bool):=(spec_l20Good.f k l0).bind fun t405 => (if t405 = true then ((spec_l2Id.f k a1).bind fun t406 => (if t406 = true then ((spec_l1Has.f k (([1,2,4,8] : List Int)) a2).bind fun t410 => (if t410 = true then ((spec_l20Hour.f a3).bind fun t411 => (spec_HeldHours.j0 k l0 a1 a2 a3 (!t411))) else (spec_HeldHours.j0 k l0 a1 a2 a3 true))) else (spec_HeldHours.j0 k l0 a1 a2 a3 true))) else (spec_HeldHours.j0 k l0 a1 a2 a3 true))
theorem spec_HeldHours.mono_l : ∀ k,(∀ y0 y1 y2 y3 y4,LeO (spec_HeldHours.j0 k y0 y1 y2 y3 y4) (spec_HeldHours.j0 (k + 1) y0 y1 y2 y3 y4)) ∧ (∀ y0 y1 y2 y3 y4 y5,LeO (spec_HeldHours.l0 k y0 y1 y2 y3 y4 y5) (spec_HeldHours.l0 (k + 1) y0 y1 y2 y3 y4 y5))
 | 0 => ⟨fun _ _ _ _ _ r h => by simp [spec_HeldHours.j0] at h,fun _ _ _ _ _ _ r h => by simp [spec_HeldHours.l0] at h⟩
 | k + 1 => by
  obtain ⟨ih0,ih1⟩ := spec_HeldHours.mono_l k
  refine ⟨?_, ?_⟩
  ·intro y0 y1 y2 y3 y4
   unfold spec_HeldHours.j0
   repeat' first
   | (with_reducible exact ih0 _ _ _ _ _)
   | (with_reducible exact ih1 _ _ _ _ _ _)
   | (with_reducible exact spec_l1Has.mono _ _ _)
   | (with_reducible exact spec_l20At.mono _ _ _ _)
   | (with_reducible exact spec_l20By.mono _ _ _)
   | (with_reducible exact spec_l20Good.mono _ _)
   | (with_reducible exact spec_l2Id.mono _ _)
   | (with_reducible exact LeO.refl _)
   | (with_reducible exact LeO.none _)
   | (with_reducible refine LeO.ite ?_ ?_)
   | (with_reducible refine LeO.bind ?_ (fun _ => ?_))
   | exact ih0 _ _ _ _ _
   | exact ih1 _ _ _ _ _ _
   | exact spec_l1Has.mono _ _ _
   | exact spec_l20At.mono _ _ _ _
   | exact spec_l20By.mono _ _ _
   | exact spec_l20Good.mono _ _
   | exact spec_l2Id.mono _ _
   | exact LeO.none _
   | refine LeO.ite ?_ ?_
   | refine LeO.bind ?_ (fun _ => ?_)
  ·intro y0 y1 y2 y3 y4 y5
   unfold spec_HeldHours.l0
   repeat' first
   | (with_reducible exact ih0 _ _ _ _ _)
   | (with_reducible exact ih1 _ _ _ _ _ _)
   | (with_reducible exact spec_l1Has.mono _ _ _)
   | (with_reducible exact spec_l20At.mono _ _ _ _)
   | (with_reducible exact spec_l20By.mono _ _ _)
   | (with_reducible exact spec_l20Good.mono _ _)
   | (with_reducible exact spec_l2Id.mono _ _)
   | (with_reducible exact LeO.refl _)
   | (with_reducible exact LeO.none _)
   | (with_reducible refine LeO.ite ?_ ?_)
   | (with_reducible refine LeO.bind ?_ (fun _ => ?_))
   | exact ih0 _ _ _ _ _
   | exact ih1 _ _ _ _ _ _
   | exact spec_l1Has.mono _ _ _
   | exact spec_l20At.mono _ _ _ _
   | exact spec_l20By.mono _ _ _
   | exact spec_l20Good.mono _ _
   | exact spec_l2Id.mono _ _
   | exact LeO.none _
   | refine LeO.ite ?_ ?_
   | refine LeO.bind ?_ (fun _ => ?_)
theorem spec_HeldHours.mono : ∀ a0 a1 a2 a3 k,LeO (spec_HeldHours.f k a0 a1 a2 a3) (spec_HeldHours.f (k + 1) a0 a1 a2 a3):=by
 intro a0 a1 a2 a3 k
 obtain ⟨ih0,ih1⟩ := spec_HeldHours.mono_l k
 unfold spec_HeldHours.f
 repeat' first
   | (with_reducible exact ih0 _ _ _ _ _)
   | (with_reducible exact ih1 _ _ _ _ _ _)
   | (with_reducible exact spec_l1Has.mono _ _ _)
   | (with_reducible exact spec_l20At.mono _ _ _ _)
   | (with_reducible exact spec_l20By.mono _ _ _)
   | (with_reducible exact spec_l20Good.mono _ _)
   | (with_reducible exact spec_l2Id.mono _ _)
   | (with_reducible exact LeO.refl _)
   | (with_reducible exact LeO.none _)
   | (with_reducible refine LeO.ite ?_ ?_)
   | (with_reducible refine LeO.bind ?_ (fun _ => ?_))
   | exact ih0 _ _ _ _ _
   | exact ih1 _ _ _ _ _ _
   | exact spec_l1Has.mono _ _ _
   | exact spec_l20At.mono _ _ _ _
   | exact spec_l20By.mono _ _ _
   | exact spec_l20Good.mono _ _
   | exact spec_l2Id.mono _ _
   | exact LeO.none _
   | refine LeO.ite ?_ ?_
   | refine LeO.bind ?_ (fun _ => ?_)
set_option maxHeartbeats 8000000 in
set_option maxRecDepth 100000 in
theorem spec_HeldHours.calls (k : Nat) (A0 : Option Addr) (c0 : Nat) (l0 : List (S26)) (a1 : ByteArray) (a2 : Int) (a3 : Int) (r1 : Int) (r2 : Bool) (w : World) (hr0 : Kd.C k26 w A0 l0.length l0) (hc0 : l0.length ≤ c0) (h : spec_HeldHours.f k l0 a1 a2 a3 = some (r1,r2)) :
  Calls Try.prog 15 #[.slice A0 l0.length c0, .string a1, .int .i64 a2, .int .i64 a3] w fun e w' => e = .returned (.tuple #[.int .i64 r1, .bool r2]) ∧ Below w.heap.size w w':=by
 have HR0:=Aside0.mk hr0
 have HC0:=Aside0.mk hc0
 clear hr0 hc0
 have HB:=Aside0.mk (Below.refl w.heap.size w)
 have H : ((spec_l20Good.f k l0).bind fun t405 => (if t405 = true then ((spec_l2Id.f k a1).bind fun t406 => (if t406 = true then ((spec_l1Has.f k (([1,2,4,8] : List Int)) a2).bind fun t410 => (if t410 = true then ((spec_l20Hour.f a3).bind fun t411 => (spec_HeldHours.j0 k l0 a1 a2 a3 (!t411))) else (spec_HeldHours.j0 k l0 a1 a2 a3 true))) else (spec_HeldHours.j0 k l0 a1 a2 a3 true))) else (spec_HeldHours.j0 k l0 a1 a2 a3 true))) = some (r1,r2):=h
 clear h
 have HC5:=Aside0.mk H
 clear H
 go_enter Try.func15,Try.ntmps15
 go_upto_region 1 with (fail)
 go_cut [30] (fun v30 wc => ∃ (kq : Nat) (x30_4 : Bool),v30 = .bool x30_4 ∧ Aside0 (spec_HeldHours.j0 kq l0 a1 a2 a3 x30_4 = some (r1,r2)) ∧ Aside0 (kq ≤ k) ∧ Aside0 (Below w.heap.size w wc))
 case first =>
  have H:=HC5.out
  clear HC5
  replace H:=Option.bind_eq_some_iff.mp H
  obtain ⟨t405,A60,H⟩ := H
  replace H : (if t405 = true then ((spec_l2Id.f k a1).bind fun t406 => (if t406 = true then ((spec_l1Has.f k (([1,2,4,8] : List Int)) a2).bind fun t410 => (if t410 = true then ((spec_l20Hour.f a3).bind fun t411 => (spec_HeldHours.j0 k l0 a1 a2 a3 (!t411))) else (spec_HeldHours.j0 k l0 a1 a2 a3 true))) else (spec_HeldHours.j0 k l0 a1 a2 a3 true))) else (spec_HeldHours.j0 k l0 a1 a2 a3 true)) = some (r1,r2):=H
  have A6:=Aside0.mk A60
  clear A60
  by_cases c7 : t405 = true
  ·subst c7
   have H1 : ((spec_l2Id.f k a1).bind fun t406 => (if t406 = true then ((spec_l1Has.f k (([1,2,4,8] : List Int)) a2).bind fun t410 => (if t410 = true then ((spec_l20Hour.f a3).bind fun t411 => (spec_HeldHours.j0 k l0 a1 a2 a3 (!t411))) else (spec_HeldHours.j0 k l0 a1 a2 a3 true))) else (spec_HeldHours.j0 k l0 a1 a2 a3 true))) = some (r1,r2):=by rw [if_pos rfl] at H;exact H
   clear H
   have H:=H1
   clear H1
   replace H:=Option.bind_eq_some_iff.mp H
   obtain ⟨t406,A80,H⟩ := H
   replace H : (if t406 = true then ((spec_l1Has.f k (([1,2,4,8] : List Int)) a2).bind fun t410 => (if t410 = true then ((spec_l20Hour.f a3).bind fun t411 => (spec_HeldHours.j0 k l0 a1 a2 a3 (!t411))) else (spec_HeldHours.j0 k l0 a1 a2 a3 true))) else (spec_HeldHours.j0 k l0 a1 a2 a3 true)) = some (r1,r2):=H
   have A8:=Aside0.mk A80
   clear A80
   by_cases c9 : t406 = true
   ·subst c9
    have H1 : ((spec_l1Has.f k (([1,2,4,8] : List Int)) a2).bind fun t410 => (if t410 = true then ((spec_l20Hour.f a3).bind fun t411 => (spec_HeldHours.j0 k l0 a1 a2 a3 (!t411))) else (spec_HeldHours.j0 k l0 a1 a2 a3 true))) = some (r1,r2):=by rw [if_pos rfl] at H;exact H
    clear H
    have H:=H1
    clear H1
    obtain ⟨y407,hy407⟩ : ∃ y_ : List Int,y_ = (([1,2,4,8] : List Int)):=⟨_,rfl⟩
    replace H : ((spec_l1Has.f k y407 a2).bind fun t410 => (if t410 = true then ((spec_l20Hour.f a3).bind fun t411 => (spec_HeldHours.j0 k l0 a1 a2 a3 (!t411))) else (spec_HeldHours.j0 k l0 a1 a2 a3 true))) = some (r1,r2):=by (rw [hy407];with_reducible exact H)
    have Ny407:=Aside0.mk hy407
    clear hy407
    replace H:=Option.bind_eq_some_iff.mp H
    obtain ⟨t410,A100,H⟩ := H
    replace H : (if t410 = true then ((spec_l20Hour.f a3).bind fun t411 => (spec_HeldHours.j0 k l0 a1 a2 a3 (!t411))) else (spec_HeldHours.j0 k l0 a1 a2 a3 true)) = some (r1,r2):=H
    have A10:=Aside0.mk A100
    clear A100
    by_cases c11 : t410 = true
    ·subst c11
     have H1 : ((spec_l20Hour.f a3).bind fun t411 => (spec_HeldHours.j0 k l0 a1 a2 a3 (!t411))) = some (r1,r2):=by rw [if_pos rfl] at H;exact H
     clear H
     have H:=H1
     clear H1
     replace H:=Option.bind_eq_some_iff.mp H
     obtain ⟨t411,A120,H⟩ := H
     replace H : (spec_HeldHours.j0 k l0 a1 a2 a3 (!t411)) = some (r1,r2):=H
     have A12:=Aside0.mk A120
     clear A120
     have H':=Aside0.mk H
     clear H
     go_wp2_with (first | ((with_reducible refine gate_callee (f:=25) rfl ?_);refine goesL_ (some 13) rfl rfl Try.func25 (by kernel_rfl) rfl #[.slice A0 l0.length c0] rfl (by (try simp only [List.map_toArray,List.map_cons,List.map_nil]);rfl) ?_;(with_reducible refine (spec_l20Good.calls k _ _ l0 true _ ?side1 ?side2 A6.out).mono ?_);(case side1 => repeat (exact (Kd.C_below HR0.out HB.out)));(case side2 => exact HC0.out);rintro e w13 ⟨rfl,hb⟩;refine ⟨_,rfl, ?_⟩;have n0_:=Aside0.mk (below_step (by exact HB.out) hb);clear HB;have HB:=n0_;clear n0_;(try clear hb)) | (go_at_call 31;(with_reducible refine (spec_l2Id.calls k a1 true _ A8.out).mono ?_);rintro e w' ⟨rfl,⟨nd,rfl⟩⟩) | ((with_reducible refine gate_dst (N:=21) rfl ?_);(try (refine gate_guard (by rfl) ?_;dsimp only));refine Kd.R_lit (Kd.int .i64) _ 3 ?hg (N:=21) ?hd (xs:=([1,2,4,8] : List Int)) (inner := [.int .i64 1, .int .i64 2, .int .i64 4, .int .i64 8]) (ok:=fun _ => True) (okp:=fun _ => True) ?hr ?hp (fun _ hk => hk) trivial (Below.refl _ _) (Nat.le_refl _) (by simp) ?_;(case hd => rfl);(case hg => rfl);(case hr => (go_simp;done));(case hp => exact (Reps.one (show Kd.M (Kd.int .i64) _ _ _ 1 [.int .i64 1] from rfl) (Reps.one (show Kd.M (Kd.int .i64) _ _ _ 2 [.int .i64 2] from rfl) (Reps.one (show Kd.M (Kd.int .i64) _ _ _ 4 [.int .i64 4] from rfl) (Reps.one (show Kd.M (Kd.int .i64) _ _ _ 8 [.int .i64 8] from rfl) (Reps.none _ _))))));intro v408 w14 ho15 hb hg_ hnew_;clear hg_ hnew_;(rw [← Ny407.out] at ho15);have n0_:=Aside0.mk (Kd.R_lower ho15 (below_size (by repeat ((with_reducible first | exact HB.out | apply pw_below_drewN)))));have n1_:=Aside0.mk (below_step (by repeat ((with_reducible first | exact HB.out | apply pw_below_drewN))) hb);clear HB;have HO409:=n0_;have HB:=n1_;clear n0_ n1_;clear hb ho15;obtain ⟨Ao16,co16,eo16⟩ := Kd.R_slice HO409.out;subst eo16) | (go_at_call 32;(with_reducible refine (spec_l1Has.calls k _ _ y407 a2 true _ ?side1 ?side2 A10.out).mono ?_);(case side1 => repeat (exact (Kd.R_reads' HO409.out).2.2));(case side2 => exact (Kd.R_reads' HO409.out).2.1);rintro e w' ⟨rfl,⟨nd,rfl⟩⟩) | (go_at_call 33;(with_reducible refine (spec_l20Hour.calls a3 t411 _ A12.out).mono ?_);rintro e w' ⟨rfl,⟨nd,rfl⟩⟩))
     go_meet
     case rel => exact ⟨_,(!t411),(by rfl),H',⟨by omega⟩,⟨by repeat ((with_reducible first | exact HB.out | apply pw_below_drewN))⟩⟩
    ·replace c11:=Bool.eq_false_iff.mpr c11
     subst c11
     have H1 : (spec_HeldHours.j0 k l0 a1 a2 a3 true) = some (r1,r2):=by rw [if_neg (show ¬ (false = true) by decide)] at H;exact H
     clear H
     have H:=H1
     clear H1
     have H':=Aside0.mk H
     clear H
     go_wp2_with (first | ((with_reducible refine gate_callee (f:=25) rfl ?_);refine goesL_ (some 13) rfl rfl Try.func25 (by kernel_rfl) rfl #[.slice A0 l0.length c0] rfl (by (try simp only [List.map_toArray,List.map_cons,List.map_nil]);rfl) ?_;(with_reducible refine (spec_l20Good.calls k _ _ l0 true _ ?side1 ?side2 A6.out).mono ?_);(case side1 => repeat (exact (Kd.C_below HR0.out HB.out)));(case side2 => exact HC0.out);rintro e w17 ⟨rfl,hb⟩;refine ⟨_,rfl, ?_⟩;have n0_:=Aside0.mk (below_step (by exact HB.out) hb);clear HB;have HB:=n0_;clear n0_;(try clear hb)) | (go_at_call 31;(with_reducible refine (spec_l2Id.calls k a1 true _ A8.out).mono ?_);rintro e w' ⟨rfl,⟨nd,rfl⟩⟩) | ((with_reducible refine gate_dst (N:=21) rfl ?_);(try (refine gate_guard (by rfl) ?_;dsimp only));refine Kd.R_lit (Kd.int .i64) _ 3 ?hg (N:=21) ?hd (xs:=([1,2,4,8] : List Int)) (inner := [.int .i64 1, .int .i64 2, .int .i64 4, .int .i64 8]) (ok:=fun _ => True) (okp:=fun _ => True) ?hr ?hp (fun _ hk => hk) trivial (Below.refl _ _) (Nat.le_refl _) (by simp) ?_;(case hd => rfl);(case hg => rfl);(case hr => (go_simp;done));(case hp => exact (Reps.one (show Kd.M (Kd.int .i64) _ _ _ 1 [.int .i64 1] from rfl) (Reps.one (show Kd.M (Kd.int .i64) _ _ _ 2 [.int .i64 2] from rfl) (Reps.one (show Kd.M (Kd.int .i64) _ _ _ 4 [.int .i64 4] from rfl) (Reps.one (show Kd.M (Kd.int .i64) _ _ _ 8 [.int .i64 8] from rfl) (Reps.none _ _))))));intro v408 w18 ho19 hb hg_ hnew_;clear hg_ hnew_;(rw [← Ny407.out] at ho19);have n0_:=Aside0.mk (Kd.R_lower ho19 (below_size (by repeat ((with_reducible first | exact HB.out | apply pw_below_drewN)))));have n1_:=Aside0.mk (below_step (by repeat ((with_reducible first | exact HB.out | apply pw_below_drewN))) hb);clear HB;have HO409:=n0_;have HB:=n1_;clear n0_ n1_;clear hb ho19;obtain ⟨Ao20,co20,eo20⟩ := Kd.R_slice HO409.out;subst eo20) | (go_at_call 32;(with_reducible refine (spec_l1Has.calls k _ _ y407 a2 false _ ?side1 ?side2 A10.out).mono ?_);(case side1 => repeat (exact (Kd.R_reads' HO409.out).2.2));(case side2 => exact (Kd.R_reads' HO409.out).2.1);rintro e w' ⟨rfl,⟨nd,rfl⟩⟩))
     go_meet
     case rel => exact ⟨_,(true),(by rfl),H',⟨by omega⟩,⟨by repeat ((with_reducible first | exact HB.out | apply pw_below_drewN))⟩⟩
   ·replace c9:=Bool.eq_false_iff.mpr c9
    subst c9
    have H1 : (spec_HeldHours.j0 k l0 a1 a2 a3 true) = some (r1,r2):=by rw [if_neg (show ¬ (false = true) by decide)] at H;exact H
    clear H
    have H:=H1
    clear H1
    have H':=Aside0.mk H
    clear H
    go_wp2_with (first | ((with_reducible refine gate_callee (f:=25) rfl ?_);refine goesL_ (some 13) rfl rfl Try.func25 (by kernel_rfl) rfl #[.slice A0 l0.length c0] rfl (by (try simp only [List.map_toArray,List.map_cons,List.map_nil]);rfl) ?_;(with_reducible refine (spec_l20Good.calls k _ _ l0 true _ ?side1 ?side2 A6.out).mono ?_);(case side1 => repeat (exact (Kd.C_below HR0.out HB.out)));(case side2 => exact HC0.out);rintro e w21 ⟨rfl,hb⟩;refine ⟨_,rfl, ?_⟩;have n0_:=Aside0.mk (below_step (by exact HB.out) hb);clear HB;have HB:=n0_;clear n0_;(try clear hb)) | (go_at_call 31;(with_reducible refine (spec_l2Id.calls k a1 false _ A8.out).mono ?_);rintro e w' ⟨rfl,⟨nd,rfl⟩⟩))
    go_meet
    case rel => exact ⟨_,(true),(by rfl),H',⟨by omega⟩,⟨by repeat ((with_reducible first | exact HB.out | apply pw_below_drewN))⟩⟩
  ·replace c7:=Bool.eq_false_iff.mpr c7
   subst c7
   have H1 : (spec_HeldHours.j0 k l0 a1 a2 a3 true) = some (r1,r2):=by rw [if_neg (show ¬ (false = true) by decide)] at H;exact H
   clear H
   have H:=H1
   clear H1
   have H':=Aside0.mk H
   clear H
   go_wp2_with (((with_reducible refine gate_callee (f:=25) rfl ?_);refine goesL_ (some 13) rfl rfl Try.func25 (by kernel_rfl) rfl #[.slice A0 l0.length c0] rfl (by (try simp only [List.map_toArray,List.map_cons,List.map_nil]);rfl) ?_;(with_reducible refine (spec_l20Good.calls k _ _ l0 false _ ?side1 ?side2 A6.out).mono ?_);(case side1 => repeat (exact (Kd.C_below HR0.out HB.out)));(case side2 => exact HC0.out);rintro e w22 ⟨rfl,hb⟩;refine ⟨_,rfl, ?_⟩;have n0_:=Aside0.mk (below_step (by exact HB.out) hb);clear HB;have HB:=n0_;clear n0_;(try clear hb)))
   go_meet
   case rel => exact ⟨_,(true),(by rfl),H',⟨by omega⟩,⟨by exact HB.out⟩⟩
 case rest =>
  clear HC5
  try clear c1
  try clear c2
  try clear p2
  try clear c7
  try clear c9
  try clear c11
  try clear c15
  obtain ⟨kq,x30_4,rfl,HA,HJ4,HB⟩ := hcut
  cases kq with
  | zero => exact absurd HA.out (by simp [spec_HeldHours.j0])
  | succ kj4 =>
   have H:=HA.out
   clear HA
   simp only [spec_HeldHours.j0] at H
   by_cases c23 : x30_4 = true
   ·subst c23
    have H1 : (some (0,false)) = some (r1,r2):=by rw [if_pos rfl] at H;exact H
    clear H
    have H:=H1
    clear H1
    simp only [Option.some.injEq,Prod.mk.injEq] at H
    obtain ⟨rfl,rfl⟩ := H
    go_wp2
    go_ret2
    exact ⟨by rfl,by exact HB.out⟩
   ·replace c23:=Bool.eq_false_iff.mpr c23
    subst c23
    have H1 : (spec_HeldHours.l0 kj4 l0 a1 a2 a3 0 0) = some (r1,r2):=by rw [if_neg (show ¬ (false = true) by decide)] at H;exact H
    clear H
    have H:=H1
    clear H1
    have H':=Aside0.mk H
    clear H
    go_wp2
    (skip)
    go_loopg [10,11] kj4 (fun kq v10 v11 w' => ∃ (x10_2 : Int) (x11_2 : Int),v10 = .int .i64 x10_2 ∧ v11 = .int .i64 x11_2 ∧ Aside0 (spec_HeldHours.l0 kq l0 a1 a2 a3 x10_2 x11_2 = some (r1,r2)) ∧ Aside0 (kq ≤ kj4) ∧ Aside0 (Below w.heap.size w w'))
    case atStart => exact ⟨(0),(0),(by rfl),(by rfl),H',⟨Nat.le_refl _⟩,⟨by exact HB.out⟩⟩
    case round =>
     clear H'
     try clear c1
     try clear c2
     try clear p2
     try clear c7
     try clear c9
     try clear c11
     try clear c15
     try clear c23
     try clear p2
     obtain ⟨x10_2,x11_2,rfl,rfl,HA,HK2,HB⟩ := hrel
     cases gk with
     | zero => exact absurd HA.out (by simp [spec_HeldHours.l0])
     | succ k2 =>
      have H:=HA.out
      clear HA
      simp only [spec_HeldHours.l0] at H
      by_cases c24 : x11_2 < a3
      ·rw [if_pos c24] at H
       have c24b0 : decide (x11_2 < a3) = true:=decide_eq_true c24
       clear c24
       replace H:=Option.bind_eq_some_iff.mp H
       obtain ⟨t412,A250,H⟩ := H
       replace H : ((spec_l20At.f k2 l0 t412 a1).bind fun t413 => (if (Go.bits .and .i64 t413 a2) = 0 then (spec_HeldHours.l0 k2 l0 a1 a2 a3 x10_2 (wrap64 (x11_2 + 1))) else (spec_HeldHours.l0 k2 l0 a1 a2 a3 (wrap64 (x10_2 + 1)) (wrap64 (x11_2 + 1))))) = some (r1,r2):=H
       have A25:=Aside0.mk A250
       clear A250
       replace H:=Option.bind_eq_some_iff.mp H
       obtain ⟨t413,A260,H⟩ := H
       replace H : (if (Go.bits .and .i64 t413 a2) = 0 then (spec_HeldHours.l0 k2 l0 a1 a2 a3 x10_2 (wrap64 (x11_2 + 1))) else (spec_HeldHours.l0 k2 l0 a1 a2 a3 (wrap64 (x10_2 + 1)) (wrap64 (x11_2 + 1)))) = some (r1,r2):=H
       have A26:=Aside0.mk A260
       clear A260
       by_cases c27 : (Go.bits .and .i64 t413 a2) = 0
       ·rw [if_pos c27] at H
        have c27b0 : ((Go.bits .and .i64 t413 a2) == 0) = true:=beq_iff_eq.mpr c27
        have c27b1 : ((Go.bits .and .i64 t413 a2) != 0) = false:=bne_eq_false_iff_eq.mpr c27
        clear c27
        have H':=Aside0.mk H
        clear H
        go_wp2_with (first | ((with_reducible refine gate_callee (f:=35) rfl ?_);refine goesL_ (some 39) rfl rfl Try.func35 (by kernel_rfl) rfl #[.slice A0 l0.length c0, .int .i64 x11_2] rfl (by (try simp only [List.map_toArray,List.map_cons,List.map_nil]);rfl) ?_;(with_reducible refine (spec_l20By.calls k2 _ _ l0 x11_2 t412 _ ?side1 ?side2 A25.out).mono ?_);(case side1 => repeat (exact (Kd.C_below HR0.out HB.out)));(case side2 => exact HC0.out);rintro e w' ⟨rfl,⟨nd,rfl⟩⟩;refine ⟨_,rfl, ?_⟩) | ((with_reducible refine gate_callee (f:=34) rfl ?_);refine goesL_ (some 41) rfl rfl Try.func34 (by kernel_rfl) rfl #[.slice A0 l0.length c0, .int .i64 t412, .string a1] rfl (by (try simp only [List.map_toArray,List.map_cons,List.map_nil]);rfl) ?_;(with_reducible refine (spec_l20At.calls k2 _ _ l0 t412 a1 t413 _ ?side1 ?side2 A26.out).mono ?_);(case side1 => repeat (exact (Kd.C_below HR0.out (by repeat ((with_reducible first | exact HB.out | apply pw_below_drewN))))));(case side2 => exact HC0.out);rintro e w' ⟨rfl,⟨nd,rfl⟩⟩;refine ⟨_,rfl, ?_⟩))
        go_roundg k2
        case measure => have:=HJ4.out;have:=HK2.out;omega
        case rel => exact ⟨(x10_2),(wrap64 (x11_2 + 1)),(by rfl),(by rfl),H',⟨by have:=HJ4.out;have:=HK2.out;omega⟩,⟨by repeat ((with_reducible first | exact HB.out | apply pw_below_drewN))⟩⟩
       ·rw [if_neg c27] at H
        have c27b0 : ((Go.bits .and .i64 t413 a2) == 0) = false:=beq_eq_false_iff_ne.mpr c27
        have c27b1 : ((Go.bits .and .i64 t413 a2) != 0) = true:=bne_iff_ne.mpr c27
        have H':=Aside0.mk H
        clear H
        go_wp2_with (first | ((with_reducible refine gate_callee (f:=35) rfl ?_);refine goesL_ (some 39) rfl rfl Try.func35 (by kernel_rfl) rfl #[.slice A0 l0.length c0, .int .i64 x11_2] rfl (by (try simp only [List.map_toArray,List.map_cons,List.map_nil]);rfl) ?_;(with_reducible refine (spec_l20By.calls k2 _ _ l0 x11_2 t412 _ ?side1 ?side2 A25.out).mono ?_);(case side1 => repeat (exact (Kd.C_below HR0.out HB.out)));(case side2 => exact HC0.out);rintro e w' ⟨rfl,⟨nd,rfl⟩⟩;refine ⟨_,rfl, ?_⟩) | ((with_reducible refine gate_callee (f:=34) rfl ?_);refine goesL_ (some 41) rfl rfl Try.func34 (by kernel_rfl) rfl #[.slice A0 l0.length c0, .int .i64 t412, .string a1] rfl (by (try simp only [List.map_toArray,List.map_cons,List.map_nil]);rfl) ?_;(with_reducible refine (spec_l20At.calls k2 _ _ l0 t412 a1 t413 _ ?side1 ?side2 A26.out).mono ?_);(case side1 => repeat (exact (Kd.C_below HR0.out (by repeat ((with_reducible first | exact HB.out | apply pw_below_drewN))))));(case side2 => exact HC0.out);rintro e w' ⟨rfl,⟨nd,rfl⟩⟩;refine ⟨_,rfl, ?_⟩))
        go_roundg k2
        case measure => have:=HJ4.out;have:=HK2.out;omega
        case rel => exact ⟨(wrap64 (x10_2 + 1)),(wrap64 (x11_2 + 1)),(by rfl),(by rfl),H',⟨by have:=HJ4.out;have:=HK2.out;omega⟩,⟨by repeat ((with_reducible first | exact HB.out | apply pw_below_drewN))⟩⟩
      ·rw [if_neg c24] at H
       have c24b0 : decide (x11_2 < a3) = false:=decide_eq_false c24
       clear c24
       simp only [Option.some.injEq,Prod.mk.injEq] at H
       obtain ⟨rfl,rfl⟩ := H
       go_wp2
       go_ret2
       exact ⟨by rfl,by exact HB.out⟩

/-! ### spec_DrawIsValidFile: function 36 -/
def spec_DrawIsValidFile.f (k : Nat) (l0 : List Int) : Option ((List (S26))):=(spec_l1Cur_file.f k l0 0 0).bind fun bt415 => (some bt415.1)
theorem spec_DrawIsValidFile.mono : ∀ a0 k,LeO (spec_DrawIsValidFile.f k a0) (spec_DrawIsValidFile.f (k + 1) a0):=by
 intro a0 k
 unfold spec_DrawIsValidFile.f
 repeat' first
   | (with_reducible exact spec_l1Cur_file.mono _ _ _ _)
   | (with_reducible exact LeO.refl _)
   | (with_reducible exact LeO.none _)
   | (with_reducible refine LeO.ite ?_ ?_)
   | (with_reducible refine LeO.bind ?_ (fun _ => ?_))
   | exact spec_l1Cur_file.mono _ _ _ _
   | exact LeO.none _
   | refine LeO.ite ?_ ?_
   | refine LeO.bind ?_ (fun _ => ?_)
set_option maxHeartbeats 8000000 in
set_option maxRecDepth 100000 in
theorem spec_DrawIsValidFile.calls (k : Nat) (A0 : Option Addr) (c0 : Nat) (l0 : List Int) (r : List (S26)) (w : World) (hr0 : Kd.C (Kd.int .u8) w A0 l0.length l0) (hc0 : l0.length ≤ c0) (h : spec_DrawIsValidFile.f k l0 = some r) :
  Calls Try.prog 36 #[.slice A0 l0.length c0] w fun e w' => ∃ v0_ : Value,e = .returned (v0_) ∧ Kd.Q k26 26 w' w.heap.size (fun _ => True) v0_ r ∧ Below w.heap.size w w':=by
 have hu44:=Try.underlying44
 have HR0:=Aside0.mk hr0
 have HC0:=Aside0.mk hc0
 clear hr0 hc0
 have HB:=Aside0.mk (Below.refl w.heap.size w)
 have H : ((spec_l1Cur_file.f k l0 0 0).bind fun bt415 => (some bt415.1)) = some r:=h
 clear h
 replace H:=Option.bind_eq_some_iff.mp H
 obtain ⟨⟨t415,t418,t419⟩,A20,H⟩ := H
 replace H : (some t415) = some r:=H
 have A2:=Aside0.mk A20
 clear A20
 obtain rfl:=Option.some.inj H
 go_enter Try.func36,Try.ntmps36
 go_wp2_with (first | ((with_reducible refine gate_dst (N:=6) rfl ?_);refine box_event ?hg (N:=6) ?hd (cs:=#[.slice A0 l0.length c0, .int .i64 0, .int .u64 0]) (t:=44) ?hr ?_;(case hd => rfl);(case hg => rfl);(case hr => (go_simp;done));intro gb414 hg w3 hbox hb;have n0_:=Aside0.mk (below_step (by exact HB.out) hb);have n1_:=Aside0.mk ((show IsS44 w _ gb414 l0 0 0 from ⟨_,_,hbox,(by rw [hg];exact (below_size (by exact HB.out)) : w.heap.size ≤ gb414),HR0.out⟩));clear HB;have HB:=n0_;have HI414:=n1_;clear n0_ n1_;clear hb hbox hg) | ((with_reducible refine gate_callee (f:=19) rfl ?_);refine goesL_ (some 8) rfl rfl Try.func19 (by kernel_rfl) rfl #[.pointer (some ⟨gb414,0,none⟩)] rfl (by (try simp only [List.map_toArray,List.map_cons,List.map_nil]);rfl) ?_;(with_reducible refine (spec_l1Cur_file.calls k gb414 l0 0 0 t415 t418 t419 w _ ?side1 ?side2 A2.out).mono ?_);(case side1 => exact HI414.out);(case side2 => exact HB.out);rintro e w4 ⟨v416,rfl,ho0,hi,hb,hk⟩;refine ⟨_,rfl, ?_⟩;have n0_:=Aside0.mk (Kd.Q_lower ho0 (below_size (by exact HB.out)));have n1_:=Aside0.mk (hb);have n2_:=Aside0.mk (hi);clear HB;clear HI414;have HO417:=n0_;have HB:=n1_;have HI414:=n2_;clear n0_ n1_ n2_;(try clear hb);(try clear hk);(try clear hi);(try clear ho0)))
 go_ret
 exact ⟨_,by rfl,by exact HO417.out,by exact HB.out⟩

/-! ### spec_DrawBusiestHold: function 16 -/
def spec_DrawBusiestHold.f (k : Nat) (l0 : List Int) : Option ((List (S26))):=(spec_DrawIsValidFile.f k l0).bind fun t420 => (some t420)
theorem spec_DrawBusiestHold.mono : ∀ a0 k,LeO (spec_DrawBusiestHold.f k a0) (spec_DrawBusiestHold.f (k + 1) a0):=by
 intro a0 k
 unfold spec_DrawBusiestHold.f
 repeat' first
   | (with_reducible exact spec_DrawIsValidFile.mono _ _)
   | (with_reducible exact LeO.refl _)
   | (with_reducible exact LeO.none _)
   | (with_reducible refine LeO.ite ?_ ?_)
   | (with_reducible refine LeO.bind ?_ (fun _ => ?_))
   | exact spec_DrawIsValidFile.mono _ _
   | exact LeO.none _
   | refine LeO.ite ?_ ?_
   | refine LeO.bind ?_ (fun _ => ?_)
set_option maxHeartbeats 8000000 in
set_option maxRecDepth 100000 in
theorem spec_DrawBusiestHold.calls (k : Nat) (A0 : Option Addr) (c0 : Nat) (l0 : List Int) (r : List (S26)) (w : World) (hr0 : Kd.C (Kd.int .u8) w A0 l0.length l0) (hc0 : l0.length ≤ c0) (h : spec_DrawBusiestHold.f k l0 = some r) :
  Calls Try.prog 16 #[.slice A0 l0.length c0] w fun e w' => ∃ v0_ : Value,e = .returned (v0_) ∧ Kd.Q k26 26 w' w.heap.size (fun _ => True) v0_ r ∧ Below w.heap.size w w':=by
 have HR0:=Aside0.mk hr0
 have HC0:=Aside0.mk hc0
 clear hr0 hc0
 have HB:=Aside0.mk (Below.refl w.heap.size w)
 have H : ((spec_DrawIsValidFile.f k l0).bind fun t420 => (some t420)) = some r:=h
 clear h
 replace H:=Option.bind_eq_some_iff.mp H
 obtain ⟨t420,A20,H⟩ := H
 replace H : (some t420) = some r:=H
 have A2:=Aside0.mk A20
 clear A20
 obtain rfl:=Option.some.inj H
 go_enter Try.func16,Try.ntmps16
 go_wp2_with (((with_reducible refine gate_callee (f:=36) rfl ?_);refine goesL_ (some 4) rfl rfl Try.func36 (by kernel_rfl) rfl #[.slice A0 l0.length c0] rfl (by (try simp only [List.map_toArray,List.map_cons,List.map_nil]);rfl) ?_;(with_reducible refine (spec_DrawIsValidFile.calls k _ _ l0 t420 _ ?side1 ?side2 A2.out).mono ?_);(case side1 => repeat (exact HR0.out));(case side2 => exact HC0.out);rintro e w3 ⟨v421,rfl,ho0,hb⟩;refine ⟨_,rfl, ?_⟩;have n0_:=Aside0.mk (Kd.Q_lower ho0 (below_size (by exact HB.out)));have n1_:=Aside0.mk (below_step (by exact HB.out) hb);clear HB;have HO422:=n0_;have HB:=n1_;clear n0_ n1_;(try clear hb);(try clear ho0)))
 go_ret
 exact ⟨_,by rfl,by exact HO422.out,by exact HB.out⟩

/-! ### impl_BusiestHold: function 17 -/
mutual
def impl_BusiestHold.l0 : Nat → List (S26) → Int → Int → Int → Option (Int × Int × Bool)
 | 0,_,_,_,_ => none
 | k + 1,x0,x5,x6,x14 => if x14 < 4 then (impl_BusiestHold.l1 k x0 x5 x6 x14 0 x14 x0 (x0.length : Int) 0) else (some (x5,x6,true))
def impl_BusiestHold.l1 : Nat → List (S26) → Int → Int → Int → Int → Int → List (S26) → Int → Int → Option (Int × Int × Bool)
 | 0,_,_,_,_,_,_,_,_,_ => none
 | k + 1,x0,x5,x6,x7,x8,x14,x17,x18,x19 => if x19 < x18 then (if 0 ≤ x19 then (if x19 < (x17.length : Int) then (if (rd_T26 x17 x19).f2 = true then (if 0 ≤ x7 then (impl_BusiestHold.l1 k x0 x5 x6 x7 (wrap64 (x8 + (Go.bits .and .i64 (shr .i64 ((rd_T26 x17 x19).f3) x7) 1))) x14 x17 x18 (wrap64 (x19 + 1))) else (none)) else (impl_BusiestHold.l1 k x0 x5 x6 x7 x8 x14 x17 x18 (wrap64 (x19 + 1)))) else (none)) else (none)) else (if x8 > x6 then (if 0 ≤ x7 then (impl_BusiestHold.l0 k x0 (shl .i64 1 x7) x8 (wrap64 (x14 + 1))) else (none)) else (impl_BusiestHold.l0 k x0 x5 x6 (wrap64 (x14 + 1))))
end
def impl_BusiestHold.f (k : Nat) (l0 : List (S26)) : Option (Int × Int × Bool):=(impl_IsValidFile.f k l0).bind fun t423 => (if t423 = true then (impl_BusiestHold.l0 k l0 0 (-1) 0) else (some (0,0,false)))
theorem impl_BusiestHold.mono_l : ∀ k,(∀ y0 y1 y2 y3,LeO (impl_BusiestHold.l0 k y0 y1 y2 y3) (impl_BusiestHold.l0 (k + 1) y0 y1 y2 y3)) ∧ (∀ y0 y1 y2 y3 y4 y5 y6 y7 y8,LeO (impl_BusiestHold.l1 k y0 y1 y2 y3 y4 y5 y6 y7 y8) (impl_BusiestHold.l1 (k + 1) y0 y1 y2 y3 y4 y5 y6 y7 y8))
 | 0 => ⟨fun _ _ _ _ r h => by simp [impl_BusiestHold.l0] at h,fun _ _ _ _ _ _ _ _ _ r h => by simp [impl_BusiestHold.l1] at h⟩
 | k + 1 => by
  obtain ⟨ih0,ih1⟩ := impl_BusiestHold.mono_l k
  refine ⟨?_, ?_⟩
  ·intro y0 y1 y2 y3
   unfold impl_BusiestHold.l0
   repeat' first
   | (with_reducible exact ih0 _ _ _ _)
   | (with_reducible exact ih1 _ _ _ _ _ _ _ _ _)
   | (with_reducible exact impl_IsValidFile.mono _ _)
   | (with_reducible exact LeO.refl _)
   | (with_reducible exact LeO.none _)
   | (with_reducible refine LeO.ite ?_ ?_)
   | (with_reducible refine LeO.bind ?_ (fun _ => ?_))
   | exact ih0 _ _ _ _
   | exact ih1 _ _ _ _ _ _ _ _ _
   | exact impl_IsValidFile.mono _ _
   | exact LeO.none _
   | refine LeO.ite ?_ ?_
   | refine LeO.bind ?_ (fun _ => ?_)
  ·intro y0 y1 y2 y3 y4 y5 y6 y7 y8
   unfold impl_BusiestHold.l1
   repeat' first
   | (with_reducible exact ih0 _ _ _ _)
   | (with_reducible exact ih1 _ _ _ _ _ _ _ _ _)
   | (with_reducible exact impl_IsValidFile.mono _ _)
   | (with_reducible exact LeO.refl _)
   | (with_reducible exact LeO.none _)
   | (with_reducible refine LeO.ite ?_ ?_)
   | (with_reducible refine LeO.bind ?_ (fun _ => ?_))
   | exact ih0 _ _ _ _
   | exact ih1 _ _ _ _ _ _ _ _ _
   | exact impl_IsValidFile.mono _ _
   | exact LeO.none _
   | refine LeO.ite ?_ ?_
   | refine LeO.bind ?_ (fun _ => ?_)
theorem impl_BusiestHold.mono : ∀ a0 k,LeO (impl_BusiestHold.f k a0) (impl_BusiestHold.f (k + 1) a0):=by
 intro a0 k
 obtain ⟨ih0,ih1⟩ := impl_BusiestHold.mono_l k
 unfold impl_BusiestHold.f
 repeat' first
   | (with_reducible exact ih0 _ _ _ _)
   | (with_reducible exact ih1 _ _ _ _ _ _ _ _ _)
   | (with_reducible exact impl_IsValidFile.mono _ _)
   | (with_reducible exact LeO.refl _)
   | (with_reducible exact LeO.none _)
   | (with_reducible refine LeO.ite ?_ ?_)
   | (with_reducible refine LeO.bind ?_ (fun _ => ?_))
   | exact ih0 _ _ _ _
   | exact ih1 _ _ _ _ _ _ _ _ _
   | exact impl_IsValidFile.mono _ _
   | exact LeO.none _
   | refine LeO.ite ?_ ?_
   | refine LeO.bind ?_ (fun _ => ?_)
set_option maxHeartbeats 8000000 in
set_option maxRecDepth 100000 in
theorem impl_BusiestHold.calls (k : Nat) (A0 : Option Addr) (c0 : Nat) (l0 : List (S26)) (r1 : Int) (r2 : Int) (r3 : Bool) (w : World) (hr0 : Kd.C k26 w A0 l0.length l0) (hc0 : l0.length ≤ c0) (h : impl_BusiestHold.f k l0 = some (r1,r2,r3)) :
  Calls Try.prog 17 #[.slice A0 l0.length c0] w fun e w' => e = .returned (.tuple #[.int .i64 r1, .int .i64 r2, .bool r3]) ∧ Below w.heap.size w w':=by
 have hu26:=Try.underlying26
 have HR0:=Aside0.mk hr0
 have HC0:=Aside0.mk hc0
 clear hr0 hc0
 have HB:=Aside0.mk (Below.refl w.heap.size w)
 have H : ((impl_IsValidFile.f k l0).bind fun t423 => (if t423 = true then (impl_BusiestHold.l0 k l0 0 (-1) 0) else (some (0,0,false)))) = some (r1,r2,r3):=h
 clear h
 replace H:=Option.bind_eq_some_iff.mp H
 obtain ⟨t423,A20,H⟩ := H
 replace H : (if t423 = true then (impl_BusiestHold.l0 k l0 0 (-1) 0) else (some (0,0,false))) = some (r1,r2,r3):=H
 have A2:=Aside0.mk A20
 clear A20
 by_cases c3 : t423 = true
 ·subst c3
  have H1 : (impl_BusiestHold.l0 k l0 0 (-1) 0) = some (r1,r2,r3):=by rw [if_pos rfl] at H;exact H
  clear H
  have H:=H1
  clear H1
  have H':=Aside0.mk H
  clear H
  go_enter Try.func17,Try.ntmps17
  go_wp2_with (((with_reducible refine gate_callee (f:=12) rfl ?_);refine goesL_ (some 12) rfl rfl Try.func12 (by kernel_rfl) rfl #[.slice A0 l0.length c0] rfl (by (try simp only [List.map_toArray,List.map_cons,List.map_nil]);rfl) ?_;(with_reducible refine (impl_IsValidFile.calls k _ _ l0 true _ ?side1 ?side2 A2.out).mono ?_);(case side1 => repeat (exact HR0.out));(case side2 => exact HC0.out);rintro e w4 ⟨rfl,hb⟩;refine ⟨_,rfl, ?_⟩;have n0_:=Aside0.mk (below_step (by exact HB.out) hb);clear HB;have HB:=n0_;clear n0_;(try clear hb)))
  (skip)
  go_loopg [5,6,14] k (fun kq v5 v6 v14 w' => ∃ (x5_1 : Int) (x6_1 : Int) (x14_1 : Int),v5 = .int .i64 x5_1 ∧ v6 = .int .i64 x6_1 ∧ v14 = .int .i64 x14_1 ∧ Aside0 (impl_BusiestHold.l0 kq l0 x5_1 x6_1 x14_1 = some (r1,r2,r3)) ∧ Aside0 (kq ≤ k) ∧ Aside0 (Below w.heap.size w w'))
  case atStart => exact ⟨(0),((-1)),(0),(by rfl),(by rfl),(by rfl),H',⟨Nat.le_refl _⟩,⟨by exact HB.out⟩⟩
  case round =>
   clear H'
   try clear c1
   try clear p2
   try clear c3
   obtain ⟨x5_1,x6_1,x14_1,rfl,rfl,rfl,HA,HK1,HB⟩ := hrel
   cases gk with
   | zero => exact absurd HA.out (by simp [impl_BusiestHold.l0])
   | succ k1 =>
    have H:=HA.out
    clear HA
    simp only [impl_BusiestHold.l0] at H
    by_cases c5 : x14_1 < 4
    ·rw [if_pos c5] at H
     have c5b0 : decide (x14_1 < 4) = true:=decide_eq_true c5
     clear c5
     have H':=Aside0.mk H
     clear H
     go_wp2
     (skip)
     go_loopg [8,19] k1 (fun kq v8 v19 w' => ∃ (x8_2 : Int) (x19_2 : Int),v8 = .int .i64 x8_2 ∧ v19 = .int .i64 x19_2 ∧ Aside0 (impl_BusiestHold.l1 kq l0 x5_1 x6_1 x14_1 x8_2 x14_1 l0 (l0.length : Int) x19_2 = some (r1,r2,r3)) ∧ Aside0 (kq ≤ k1) ∧ Aside0 (Below w.heap.size w w'))
     case atStart => exact ⟨(0),(0),(by rfl),(by rfl),H',⟨Nat.le_refl _⟩,⟨by exact HB.out⟩⟩
     case round =>
      clear H'
      try clear c1
      try clear p2
      try clear c3
      try clear c5
      try clear c5b0
      try clear p2
      obtain ⟨x8_2,x19_2,rfl,rfl,HA,HK2,HB⟩ := hrel
      cases gk with
      | zero => exact absurd HA.out (by simp [impl_BusiestHold.l1])
      | succ k2 =>
       have H:=HA.out
       clear HA
       simp only [impl_BusiestHold.l1] at H
       by_cases c6 : x19_2 < (l0.length : Int)
       ·rw [if_pos c6] at H
        have c6b0 : decide (x19_2 < (l0.length : Int)) = true:=decide_eq_true c6
        clear c6
        by_cases c7 : 0 ≤ x19_2
        ·rw [if_pos c7] at H
         have c7b0 : decide (0 ≤ x19_2) = true:=decide_eq_true c7
         clear c7
         by_cases c8 : x19_2 < (l0.length : Int)
         ·rw [if_pos c8] at H
          have c8b0 : decide (x19_2 < (l0.length : Int)) = true:=decide_eq_true c8
          clear c8
          obtain ⟨bq9,hbq9⟩ : ∃ b_ : Bool,b_ = ((rd_T26 l0 x19_2).f2):=⟨_,rfl⟩
          replace H : (if bq9 = true then (if 0 ≤ x14_1 then (impl_BusiestHold.l1 k2 l0 x5_1 x6_1 x14_1 (wrap64 (x8_2 + (Go.bits .and .i64 (shr .i64 ((rd_T26 l0 x19_2).f3) x14_1) 1))) x14_1 l0 (l0.length : Int) (wrap64 (x19_2 + 1))) else (none)) else (impl_BusiestHold.l1 k2 l0 x5_1 x6_1 x14_1 x8_2 x14_1 l0 (l0.length : Int) (wrap64 (x19_2 + 1)))) = some (r1,r2,r3):=by rw [← hbq9] at H;exact H
          have Nbq9:=Aside0.mk hbq9
          clear hbq9
          by_cases c10 : bq9 = true
          ·subst c10
           have H1 : (if 0 ≤ x14_1 then (impl_BusiestHold.l1 k2 l0 x5_1 x6_1 x14_1 (wrap64 (x8_2 + (Go.bits .and .i64 (shr .i64 ((rd_T26 l0 x19_2).f3) x14_1) 1))) x14_1 l0 (l0.length : Int) (wrap64 (x19_2 + 1))) else (none)) = some (r1,r2,r3):=by rw [if_pos rfl] at H;exact H
           clear H
           have H:=H1
           clear H1
           by_cases c11 : 0 ≤ x14_1
           ·rw [if_pos c11] at H
            have c11b0:=eq_true c11
            have c11b1 : decide (0 ≤ x14_1) = true:=decide_eq_true c11
            clear c11
            obtain ⟨ji12,hji12⟩ : ∃ j_ : Int,(shr .i64 ((rd_T26 l0 x19_2).f3) x14_1) = j_:=⟨_,rfl⟩
            replace H : (impl_BusiestHold.l1 k2 l0 x5_1 x6_1 x14_1 (wrap64 (x8_2 + (Go.bits .and .i64 (ji12) 1))) x14_1 l0 (l0.length : Int) (wrap64 (x19_2 + 1))) = some (r1,r2,r3):=by (rw [hji12] at H;exact H)
            have hji12_ : (((rd_T26 l0 x19_2).f3) / 2 ^ min x14_1.toNat 64) = ji12:=hji12
            have hji12z : x14_1 ≤ 64 → (((rd_T26 l0 x19_2).f3) / 2 ^ x14_1.toNat) = ji12:=shr_small hji12
            have H':=Aside0.mk H
            clear H
            have p424 : 0 ≤ (x19_2 : Int):=of_decide_eq_true (by (with_reducible assumption))
            have q424 : x19_2 < (l0.length : Int):=of_decide_eq_true (by (with_reducible assumption))
            obtain ⟨ad424,e424,hx424_0,hx424_1,hx424_2,hx424_3⟩ := at_T26 HR0.out x19_2 p424 q424
            (try rw [← Nbq9.out] at hx424_2)
            cases e424
            replace hx424_0:=(HB.out.cell (World.block_lt_of_cell? w _ hx424_0)).trans hx424_0
            replace hx424_1:=(HB.out.cell (World.block_lt_of_cell? w _ hx424_1)).trans hx424_1
            replace hx424_2:=(HB.out.cell (World.block_lt_of_cell? w _ hx424_2)).trans hx424_2
            replace hx424_3:=(HB.out.cell (World.block_lt_of_cell? w _ hx424_3)).trans hx424_3
            replace p424:=eq_true p424
            replace q424:=eq_true q424
            go_wp2_with (((with_reducible refine gate_dst (N:=10) rfl ?_);refine box_event ?hg (N:=10) ?hd (cs:=#[.int .i64 0, .string (⟨#[]⟩ : ByteArray), .bool false, .int .i64 0]) (t:=26) ?hr ?_;(case hd => rfl);(case hg => rfl);(case hr => (go_simp;done));intro gb425 hg w13 hbox hb;have n0_:=Aside0.mk (below_step (by exact HB.out) hb);have n1_:=Aside0.mk (hbox);have n2_:=Aside0.mk ((by rw [hg];exact (below_size (by exact HB.out)) : w.heap.size ≤ gb425));have n3_:=Aside0.mk ((by rw [hg];exact (below_size (by exact HB.out)) : w.heap.size ≤ gb425));clear HB;have HB:=n0_;have BK425:=n1_;have GW425:=n2_;have GE425:=n3_;clear n0_ n1_ n2_ n3_;clear hb hbox hg;have hcz14_0 : w13.cell? ⟨gb425,0,none⟩ = some (.int .i64 0):=(blk_cell BK425.out 0).trans rfl;have hcz14_1 : w13.cell? ⟨gb425,1,none⟩ = some (.string (⟨#[]⟩ : ByteArray)):=(blk_cell BK425.out 1).trans rfl;have hcz14_2 : w13.cell? ⟨gb425,2,none⟩ = some (.bool false):=(blk_cell BK425.out 2).trans rfl;have hcz14_3 : w13.cell? ⟨gb425,3,none⟩ = some (.int .i64 0):=(blk_cell BK425.out 3).trans rfl;have hfz14_0:=blk_frozen BK425.out 0;have hfz14_1:=blk_frozen BK425.out 1;have hfz14_2:=blk_frozen BK425.out 2;have hfz14_3:=blk_frozen BK425.out 3))
            go_roundg k2
            case measure => have:=HK1.out;have:=HK2.out;omega
            case rel => exact ⟨(wrap64 (x8_2 + (Go.bits .and .i64 (ji12) 1))),(wrap64 (x19_2 + 1)),(by rfl),(by rfl),H',⟨by have:=HK1.out;have:=HK2.out;omega⟩,⟨by repeat ((with_reducible first | exact HB.out | refine below_set ?_ GE425.out))⟩⟩
           ·rw [if_neg c11] at H
            exact absurd H (by simp)
          ·replace c10:=Bool.eq_false_iff.mpr c10
           subst c10
           have H1 : (impl_BusiestHold.l1 k2 l0 x5_1 x6_1 x14_1 x8_2 x14_1 l0 (l0.length : Int) (wrap64 (x19_2 + 1))) = some (r1,r2,r3):=by rw [if_neg (show ¬ (false = true) by decide)] at H;exact H
           clear H
           have H:=H1
           clear H1
           have H':=Aside0.mk H
           clear H
           have p424 : 0 ≤ (x19_2 : Int):=of_decide_eq_true (by (with_reducible assumption))
           have q424 : x19_2 < (l0.length : Int):=of_decide_eq_true (by (with_reducible assumption))
           obtain ⟨ad424,e424,hx424_0,hx424_1,hx424_2,hx424_3⟩ := at_T26 HR0.out x19_2 p424 q424
           (try rw [← Nbq9.out] at hx424_2)
           cases e424
           replace hx424_0:=(HB.out.cell (World.block_lt_of_cell? w _ hx424_0)).trans hx424_0
           replace hx424_1:=(HB.out.cell (World.block_lt_of_cell? w _ hx424_1)).trans hx424_1
           replace hx424_2:=(HB.out.cell (World.block_lt_of_cell? w _ hx424_2)).trans hx424_2
           replace hx424_3:=(HB.out.cell (World.block_lt_of_cell? w _ hx424_3)).trans hx424_3
           replace p424:=eq_true p424
           replace q424:=eq_true q424
           go_wp2_with (((with_reducible refine gate_dst (N:=10) rfl ?_);refine box_event ?hg (N:=10) ?hd (cs:=#[.int .i64 0, .string (⟨#[]⟩ : ByteArray), .bool false, .int .i64 0]) (t:=26) ?hr ?_;(case hd => rfl);(case hg => rfl);(case hr => (go_simp;done));intro gb425 hg w15 hbox hb;have n0_:=Aside0.mk (below_step (by exact HB.out) hb);have n1_:=Aside0.mk (hbox);have n2_:=Aside0.mk ((by rw [hg];exact (below_size (by exact HB.out)) : w.heap.size ≤ gb425));have n3_:=Aside0.mk ((by rw [hg];exact (below_size (by exact HB.out)) : w.heap.size ≤ gb425));clear HB;have HB:=n0_;have BK425:=n1_;have GW425:=n2_;have GE425:=n3_;clear n0_ n1_ n2_ n3_;clear hb hbox hg;have hcz16_0 : w15.cell? ⟨gb425,0,none⟩ = some (.int .i64 0):=(blk_cell BK425.out 0).trans rfl;have hcz16_1 : w15.cell? ⟨gb425,1,none⟩ = some (.string (⟨#[]⟩ : ByteArray)):=(blk_cell BK425.out 1).trans rfl;have hcz16_2 : w15.cell? ⟨gb425,2,none⟩ = some (.bool false):=(blk_cell BK425.out 2).trans rfl;have hcz16_3 : w15.cell? ⟨gb425,3,none⟩ = some (.int .i64 0):=(blk_cell BK425.out 3).trans rfl;have hfz16_0:=blk_frozen BK425.out 0;have hfz16_1:=blk_frozen BK425.out 1;have hfz16_2:=blk_frozen BK425.out 2;have hfz16_3:=blk_frozen BK425.out 3))
           go_roundg k2
           case measure => have:=HK1.out;have:=HK2.out;omega
           case rel => exact ⟨(x8_2),(wrap64 (x19_2 + 1)),(by rfl),(by rfl),H',⟨by have:=HK1.out;have:=HK2.out;omega⟩,⟨by repeat ((with_reducible first | exact HB.out | refine below_set ?_ GE425.out))⟩⟩
         ·rw [if_neg c8] at H
          exact absurd H (by simp)
        ·rw [if_neg c7] at H
         exact absurd H (by simp)
       ·rw [if_neg c6] at H
        have c6b0 : decide (x19_2 < (l0.length : Int)) = false:=decide_eq_false c6
        clear c6
        by_cases c17 : x8_2 > x6_1
        ·rw [if_pos c17] at H
         have c17b0 : decide (x6_1 < x8_2) = true:=decide_eq_true c17
         clear c17
         by_cases c18 : 0 ≤ x14_1
         ·rw [if_pos c18] at H
          have c18b0:=eq_true c18
          have c18b1 : decide (0 ≤ x14_1) = true:=decide_eq_true c18
          clear c18
          obtain ⟨ji19,hji19⟩ : ∃ j_ : Int,(shl .i64 1 x14_1) = j_:=⟨_,rfl⟩
          replace H : (impl_BusiestHold.l0 k2 l0 ji19 x8_2 (wrap64 (x14_1 + 1))) = some (r1,r2,r3):=by (rw [hji19] at H;exact H)
          have hji19_ : (IntKind.i64.wrap (1 * 2 ^ min x14_1.toNat 64)) = ji19:=hji19
          have hji19z : x14_1 ≤ 64 → (IntKind.i64.wrap (1 * 2 ^ x14_1.toNat)) = ji19:=shl_small hji19
          have hji19u : (IntKind.i64.wrap (2 ^ min x14_1.toNat 64)) = ji19:=by have h_:=hji19_;rw [Int.one_mul] at h_;exact h_
          have hji19v : x14_1 ≤ 64 → (IntKind.i64.wrap (2 ^ x14_1.toNat)) = ji19:=fun hle_ => by have h_:=hji19z hle_;rw [Int.one_mul] at h_;exact h_
          have hji19y : (wrap64 (1 * 2 ^ min x14_1.toNat 64)) = ji19:=(i64_w _).symm.trans hji19_
          have hji19x : x14_1 ≤ 64 → (wrap64 (1 * 2 ^ x14_1.toNat)) = ji19:=fun h_ => (i64_w _).symm.trans (hji19z h_)
          have H':=Aside0.mk H
          clear H
          go_wp2
          go_roundg k2
          case measure => have:=HK1.out;have:=HK2.out;omega
          case rel => exact ⟨(ji19),(x8_2),(wrap64 (x14_1 + 1)),(by rfl),(by rfl),(by rfl),H',⟨by have:=HK1.out;have:=HK2.out;omega⟩,⟨by exact HB.out⟩⟩
         ·rw [if_neg c18] at H
          exact absurd H (by simp)
        ·rw [if_neg c17] at H
         have c17b0 : decide (x6_1 < x8_2) = false:=decide_eq_false c17
         clear c17
         have H':=Aside0.mk H
         clear H
         go_wp2
         go_roundg k2
         case measure => have:=HK1.out;have:=HK2.out;omega
         case rel => exact ⟨(x5_1),(x6_1),(wrap64 (x14_1 + 1)),(by rfl),(by rfl),(by rfl),H',⟨by have:=HK1.out;have:=HK2.out;omega⟩,⟨by exact HB.out⟩⟩
    ·rw [if_neg c5] at H
     have c5b0 : decide (x14_1 < 4) = false:=decide_eq_false c5
     clear c5
     simp only [Option.some.injEq,Prod.mk.injEq] at H
     obtain ⟨rfl,rfl,rfl⟩ := H
     go_wp2
     go_ret3
     exact ⟨by rfl,by exact HB.out⟩
 ·replace c3:=Bool.eq_false_iff.mpr c3
  subst c3
  have H1 : (some (0,0,false)) = some (r1,r2,r3):=by rw [if_neg (show ¬ (false = true) by decide)] at H;exact H
  clear H
  have H:=H1
  clear H1
  simp only [Option.some.injEq,Prod.mk.injEq] at H
  obtain ⟨rfl,rfl,rfl⟩ := H
  go_enter Try.func17,Try.ntmps17
  go_wp2_with (((with_reducible refine gate_callee (f:=12) rfl ?_);refine goesL_ (some 12) rfl rfl Try.func12 (by kernel_rfl) rfl #[.slice A0 l0.length c0] rfl (by (try simp only [List.map_toArray,List.map_cons,List.map_nil]);rfl) ?_;(with_reducible refine (impl_IsValidFile.calls k _ _ l0 false _ ?side1 ?side2 A2.out).mono ?_);(case side1 => repeat (exact HR0.out));(case side2 => exact HC0.out);rintro e w20 ⟨rfl,hb⟩;refine ⟨_,rfl, ?_⟩;have n0_:=Aside0.mk (below_step (by exact HB.out) hb);clear HB;have HB:=n0_;clear n0_;(try clear hb)))
  go_ret3
  exact ⟨by rfl,by exact HB.out⟩

end Go.Proofs.Ytcjhmkhhhkcgkaa.PFnFiles
