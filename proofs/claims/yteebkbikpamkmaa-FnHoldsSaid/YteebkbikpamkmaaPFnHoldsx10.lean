-- Written by a program of this session, over the kit's print (wip/xprint.py)
import Derived.Test.YteebkbikpamkmaaPFnHoldsx0
import Derived.Test.YteebkbikpamkmaaPFnHoldsx1
import Derived.Test.YteebkbikpamkmaaPFnHoldsx2
import Derived.Test.YteebkbikpamkmaaPFnHoldsx3
import Derived.Test.YteebkbikpamkmaaPFnHoldsx4
import Derived.Test.YteebkbikpamkmaaPFnHoldsx6
import Derived.Test.YteebkbikpamkmaaPFnHoldsx8
import Derived.Test.YteebkbikpamkmaaPFnHoldsx9
namespace Go.Proofs.Yteebkbikpamkmaa.PFnHolds
open Go.RowKit Go.Proofs.YteebkbikpamkmaaW.PrintWords Go.Proofs.YteebkbikpamkmaaW.PrintLast Go.Proofs.YteebkbikpamkmaaW.PrintMore
attribute [local go_sem] max2_int min2_int max_two min_two max_three min_three max_four min_four   -- for this text's walks alone
set_option linter.unusedVariables false
set_option linter.unusedSimpArgs false

attribute [local go_sem high] eqA52
/-! ### spec_l20Hour: function 34 -/
def spec_l20Hour.f (a0 : Int) : Option (Bool):=(spec_l1In.f a0 0 240).bind fun t328 => (some t328)
set_option maxHeartbeats 8000000 in
set_option maxRecDepth 100000 in
theorem spec_l20Hour.calls (a0 : Int) (r : Bool) (w : World) (h : spec_l20Hour.f a0 = some r) :
  Calls Try.prog 34 #[.int .i64 a0] w fun e w' => e = .returned (.bool r) ∧ Drawn0 w w':=by
 have H : ((spec_l1In.f a0 0 240).bind fun t328 => (some t328)) = some r:=h
 clear h
 replace H:=Option.bind_eq_some_iff.mp H
 obtain ⟨t328,A20,H⟩ := H
 replace H : (some t328) = some r:=H
 have A2:=Aside0.mk A20
 clear A20
 obtain rfl:=Option.some.inj H
 go_enter Try.func34,Try.ntmps34
 go_wp2_with (((with_reducible refine gate_callee (f:=46) rfl ?_);refine goesL_ (some 4) rfl rfl Try.func46 (by kernel_rfl) rfl #[.int .i64 a0, .int .i64 0, .int .i64 240] rfl (by (try simp only [List.map_toArray,List.map_cons,List.map_nil]);rfl) ?_;(with_reducible refine (spec_l1In.calls a0 0 240 t328 _ A2.out).mono ?_);rintro e w' ⟨rfl,⟨nd,rfl⟩⟩;refine ⟨_,rfl, ?_⟩))
 go_ret
 exact ⟨by rfl,by repeat (first | exact Drawn0.refl _ | apply Drawn0.step)⟩

/-! ### spec_ReleaseAll: function 8 -/
def spec_ReleaseAll.j0 : Nat → List (S52) → ByteArray → Int → Bool → Option ((List (S52)) × Bool)
 | 0,_,_,_,_ => none
 | k + 1,x0,x1,x2,x22 => if x22 = true then (some ((([] : List (S52))),false)) else ((some (([] : List (S52)) : List (S52))).bind fun y335 => (if y335.length + x0.length < 3518437208883 then ((some (y335 ++ x0 : List (S52))).bind fun y338 => ((spec_l20At.f k x0 (x0.length : Int) x1).bind fun t341 => (if t341 = 0 then ((spec_l20Good.f k y338).bind fun t342 => (if t342 = true then (some (y338,true)) else (some ((([] : List (S52))),false)))) else (if y338.length < 3518437208883 then ((some (y338 ++ [(⟨x2,x1,false,t341⟩ : S52)] : List (S52))).bind fun y346 => ((spec_l20Good.f k y346).bind fun t349 => (if t349 = true then (some (y346,true)) else (some ((([] : List (S52))),false))))) else (none))))) else (none)))
def spec_ReleaseAll.f (k : Nat) (l0 : List (S52)) (a1 : ByteArray) (a2 : Int) : Option ((List (S52)) × Bool):=(spec_l20Good.f k l0).bind fun t329 => (if t329 = true then ((spec_l2Id.f k a1).bind fun t330 => (if t330 = true then ((spec_l20Hour.f a2).bind fun t331 => (spec_ReleaseAll.j0 k l0 a1 a2 (!t331))) else (spec_ReleaseAll.j0 k l0 a1 a2 true))) else (spec_ReleaseAll.j0 k l0 a1 a2 true))
theorem spec_ReleaseAll.mono_l : ∀ k,(∀ y0 y1 y2 y3,LeO (spec_ReleaseAll.j0 k y0 y1 y2 y3) (spec_ReleaseAll.j0 (k + 1) y0 y1 y2 y3))
 | 0 => fun _ _ _ _ r h => by simp [spec_ReleaseAll.j0] at h
 | k + 1 => by
  have ih0:=spec_ReleaseAll.mono_l k
  ·intro y0 y1 y2 y3
   unfold spec_ReleaseAll.j0
   repeat' first
   | (with_reducible exact ih0 _ _ _ _)
   | (with_reducible exact spec_l20At.mono _ _ _ _)
   | (with_reducible exact spec_l20Good.mono _ _)
   | (with_reducible exact spec_l2Id.mono _ _)
   | (with_reducible exact LeO.refl _)
   | (with_reducible exact LeO.none _)
   | (with_reducible refine LeO.ite ?_ ?_)
   | (with_reducible refine LeO.bind ?_ (fun _ => ?_))
   | exact ih0 _ _ _ _
   | exact spec_l20At.mono _ _ _ _
   | exact spec_l20Good.mono _ _
   | exact spec_l2Id.mono _ _
   | exact LeO.none _
   | refine LeO.ite ?_ ?_
   | refine LeO.bind ?_ (fun _ => ?_)
theorem spec_ReleaseAll.mono : ∀ a0 a1 a2 k,LeO (spec_ReleaseAll.f k a0 a1 a2) (spec_ReleaseAll.f (k + 1) a0 a1 a2):=by
 intro a0 a1 a2 k
 have ih0:=spec_ReleaseAll.mono_l k
 unfold spec_ReleaseAll.f
 repeat' first
   | (with_reducible exact ih0 _ _ _ _)
   | (with_reducible exact spec_l20At.mono _ _ _ _)
   | (with_reducible exact spec_l20Good.mono _ _)
   | (with_reducible exact spec_l2Id.mono _ _)
   | (with_reducible exact LeO.refl _)
   | (with_reducible exact LeO.none _)
   | (with_reducible refine LeO.ite ?_ ?_)
   | (with_reducible refine LeO.bind ?_ (fun _ => ?_))
   | exact ih0 _ _ _ _
   | exact spec_l20At.mono _ _ _ _
   | exact spec_l20Good.mono _ _
   | exact spec_l2Id.mono _ _
   | exact LeO.none _
   | refine LeO.ite ?_ ?_
   | refine LeO.bind ?_ (fun _ => ?_)
set_option maxHeartbeats 8000000 in
set_option maxRecDepth 100000 in
theorem spec_ReleaseAll.calls (k : Nat) (A0 : Option Addr) (c0 : Nat) (l0 : List (S52)) (a1 : ByteArray) (a2 : Int) (r1 : List (S52)) (r2 : Bool) (w : World) (hr0 : Kd.C k52 w A0 l0.length l0) (hc0 : l0.length ≤ c0) (h : spec_ReleaseAll.f k l0 a1 a2 = some (r1,r2)) :
  Calls Try.prog 8 #[.slice A0 l0.length c0, .string a1, .int .i64 a2] w fun e w' => ∃ v0_ : Value,e = .returned (.tuple #[v0_, .bool r2]) ∧ Kd.R k52 52 w' w.heap.size (fun _ => True) v0_ r1 ∧ Below w.heap.size w w':=by
 have hu52:=Try.underlying52
 have HR0:=Aside0.mk hr0
 have HC0:=Aside0.mk hc0
 clear hr0 hc0
 have HB:=Aside0.mk (Below.refl w.heap.size w)
 have H : ((spec_l20Good.f k l0).bind fun t329 => (if t329 = true then ((spec_l2Id.f k a1).bind fun t330 => (if t330 = true then ((spec_l20Hour.f a2).bind fun t331 => (spec_ReleaseAll.j0 k l0 a1 a2 (!t331))) else (spec_ReleaseAll.j0 k l0 a1 a2 true))) else (spec_ReleaseAll.j0 k l0 a1 a2 true))) = some (r1,r2):=h
 clear h
 have HC4:=Aside0.mk H
 clear H
 go_enter Try.func8,Try.ntmps8
 go_upto_region 1 with (fail)
 go_cut [22] (fun v22 wc => ∃ (kq : Nat) (x22_3 : Bool),v22 = .bool x22_3 ∧ Aside0 (spec_ReleaseAll.j0 kq l0 a1 a2 x22_3 = some (r1,r2)) ∧ Aside0 (kq ≤ k) ∧ Aside0 (Below w.heap.size w wc))
 case first =>
  have H:=HC4.out
  clear HC4
  replace H:=Option.bind_eq_some_iff.mp H
  obtain ⟨t329,A50,H⟩ := H
  replace H : (if t329 = true then ((spec_l2Id.f k a1).bind fun t330 => (if t330 = true then ((spec_l20Hour.f a2).bind fun t331 => (spec_ReleaseAll.j0 k l0 a1 a2 (!t331))) else (spec_ReleaseAll.j0 k l0 a1 a2 true))) else (spec_ReleaseAll.j0 k l0 a1 a2 true)) = some (r1,r2):=H
  have A5:=Aside0.mk A50
  clear A50
  by_cases c6 : t329 = true
  ·subst c6
   have H1 : ((spec_l2Id.f k a1).bind fun t330 => (if t330 = true then ((spec_l20Hour.f a2).bind fun t331 => (spec_ReleaseAll.j0 k l0 a1 a2 (!t331))) else (spec_ReleaseAll.j0 k l0 a1 a2 true))) = some (r1,r2):=by rw [if_pos rfl] at H;exact H
   clear H
   have H:=H1
   clear H1
   replace H:=Option.bind_eq_some_iff.mp H
   obtain ⟨t330,A70,H⟩ := H
   replace H : (if t330 = true then ((spec_l20Hour.f a2).bind fun t331 => (spec_ReleaseAll.j0 k l0 a1 a2 (!t331))) else (spec_ReleaseAll.j0 k l0 a1 a2 true)) = some (r1,r2):=H
   have A7:=Aside0.mk A70
   clear A70
   by_cases c8 : t330 = true
   ·subst c8
    have H1 : ((spec_l20Hour.f a2).bind fun t331 => (spec_ReleaseAll.j0 k l0 a1 a2 (!t331))) = some (r1,r2):=by rw [if_pos rfl] at H;exact H
    clear H
    have H:=H1
    clear H1
    replace H:=Option.bind_eq_some_iff.mp H
    obtain ⟨t331,A90,H⟩ := H
    replace H : (spec_ReleaseAll.j0 k l0 a1 a2 (!t331)) = some (r1,r2):=H
    have A9:=Aside0.mk A90
    clear A90
    have H':=Aside0.mk H
    clear H
    go_wp2_with (first | ((with_reducible refine gate_callee (f:=32) rfl ?_);refine goesL_ (some 11) rfl rfl Try.func32 (by kernel_rfl) rfl #[.slice A0 l0.length c0] rfl (by (try simp only [List.map_toArray,List.map_cons,List.map_nil]);rfl) ?_;(with_reducible refine (spec_l20Good.calls k _ _ l0 true _ ?side1 ?side2 A5.out).mono ?_);(case side1 => repeat (exact (Kd.C_below HR0.out HB.out)));(case side2 => exact HC0.out);rintro e w10 ⟨rfl,hb⟩;refine ⟨_,rfl, ?_⟩;have n0_:=Aside0.mk (below_step (by exact HB.out) hb);clear HB;have HB:=n0_;clear n0_;(try clear hb)) | (go_at_call 33;(with_reducible refine (spec_l2Id.calls k a1 true _ A7.out).mono ?_);rintro e w' ⟨rfl,⟨nd,rfl⟩⟩) | (go_at_call 34;(with_reducible refine (spec_l20Hour.calls a2 t331 _ A9.out).mono ?_);rintro e w' ⟨rfl,⟨nd,rfl⟩⟩))
    go_meet
    case rel => exact ⟨_,(!t331),(by rfl),H',⟨by omega⟩,⟨by repeat ((with_reducible first | exact HB.out | apply pw_below_drewN))⟩⟩
   ·replace c8:=Bool.eq_false_iff.mpr c8
    subst c8
    have H1 : (spec_ReleaseAll.j0 k l0 a1 a2 true) = some (r1,r2):=by rw [if_neg (show ¬ (false = true) by decide)] at H;exact H
    clear H
    have H:=H1
    clear H1
    have H':=Aside0.mk H
    clear H
    go_wp2_with (first | ((with_reducible refine gate_callee (f:=32) rfl ?_);refine goesL_ (some 11) rfl rfl Try.func32 (by kernel_rfl) rfl #[.slice A0 l0.length c0] rfl (by (try simp only [List.map_toArray,List.map_cons,List.map_nil]);rfl) ?_;(with_reducible refine (spec_l20Good.calls k _ _ l0 true _ ?side1 ?side2 A5.out).mono ?_);(case side1 => repeat (exact (Kd.C_below HR0.out HB.out)));(case side2 => exact HC0.out);rintro e w11 ⟨rfl,hb⟩;refine ⟨_,rfl, ?_⟩;have n0_:=Aside0.mk (below_step (by exact HB.out) hb);clear HB;have HB:=n0_;clear n0_;(try clear hb)) | (go_at_call 33;(with_reducible refine (spec_l2Id.calls k a1 false _ A7.out).mono ?_);rintro e w' ⟨rfl,⟨nd,rfl⟩⟩))
    go_meet
    case rel => exact ⟨_,(true),(by rfl),H',⟨by omega⟩,⟨by repeat ((with_reducible first | exact HB.out | apply pw_below_drewN))⟩⟩
  ·replace c6:=Bool.eq_false_iff.mpr c6
   subst c6
   have H1 : (spec_ReleaseAll.j0 k l0 a1 a2 true) = some (r1,r2):=by rw [if_neg (show ¬ (false = true) by decide)] at H;exact H
   clear H
   have H:=H1
   clear H1
   have H':=Aside0.mk H
   clear H
   go_wp2_with (((with_reducible refine gate_callee (f:=32) rfl ?_);refine goesL_ (some 11) rfl rfl Try.func32 (by kernel_rfl) rfl #[.slice A0 l0.length c0] rfl (by (try simp only [List.map_toArray,List.map_cons,List.map_nil]);rfl) ?_;(with_reducible refine (spec_l20Good.calls k _ _ l0 false _ ?side1 ?side2 A5.out).mono ?_);(case side1 => repeat (exact (Kd.C_below HR0.out HB.out)));(case side2 => exact HC0.out);rintro e w12 ⟨rfl,hb⟩;refine ⟨_,rfl, ?_⟩;have n0_:=Aside0.mk (below_step (by exact HB.out) hb);clear HB;have HB:=n0_;clear n0_;(try clear hb)))
   go_meet
   case rel => exact ⟨_,(true),(by rfl),H',⟨by omega⟩,⟨by exact HB.out⟩⟩
 case rest =>
  clear HC4
  try clear p2
  try clear c3
  try clear c6
  try clear c8
  obtain ⟨kq,x22_3,rfl,HA,HJ3,HB⟩ := hcut
  cases kq with
  | zero => exact absurd HA.out (by simp [spec_ReleaseAll.j0])
  | succ kj3 =>
   have H:=HA.out
   clear HA
   simp only [spec_ReleaseAll.j0] at H
   by_cases c13 : x22_3 = true
   ·subst c13
    have H1 : (some ((([] : List (S52))),false)) = some (r1,r2):=by rw [if_pos rfl] at H;exact H
    clear H
    have H:=H1
    clear H1
    obtain ⟨y332,hy332⟩ : ∃ y_ : List (S52),y_ = (([] : List (S52))):=⟨_,rfl⟩
    replace H : (some (y332,false)) = some (r1,r2):=by (rw [hy332];with_reducible exact H)
    have Ny332:=Aside0.mk hy332
    clear hy332
    simp only [Option.some.injEq,Prod.mk.injEq] at H
    obtain ⟨rfl,rfl⟩ := H
    go_wp2_with (((with_reducible refine gate_dst (N:=23) rfl ?_);refine Kd.R_lit k52 _ 52 ?hg (N:=23) ?hd (xs:=([] : List (S52))) (inner := []) (ok:=fun _ => True) (okp:=fun _ => True) ?hr ?hp (fun _ hk => hk) trivial (Below.refl _ _) (Nat.le_refl _) (by simp) ?_;(case hd => rfl);(case hg => rfl);(case hr => (go_simp;done));(case hp => exact (Reps.none _ _));intro v333 w14 ho15 hb hg_ hnew_;clear hg_ hnew_;(rw [← Ny332.out] at ho15);have n0_:=Aside0.mk (Kd.R_lower ho15 (below_size (by exact HB.out)));have n1_:=Aside0.mk (below_step (by exact HB.out) hb);clear HB;have HO334:=n0_;have HB:=n1_;clear n0_ n1_;clear hb ho15))
    go_ret2
    exact ⟨_,by rfl,by exact HO334.out,by exact HB.out⟩
   ·replace c13:=Bool.eq_false_iff.mpr c13
    subst c13
    have H1 : ((some (([] : List (S52)) : List (S52))).bind fun y335 => (if y335.length + l0.length < 3518437208883 then ((some (y335 ++ l0 : List (S52))).bind fun y338 => ((spec_l20At.f kj3 l0 (l0.length : Int) a1).bind fun t341 => (if t341 = 0 then ((spec_l20Good.f kj3 y338).bind fun t342 => (if t342 = true then (some (y338,true)) else (some ((([] : List (S52))),false)))) else (if y338.length < 3518437208883 then ((some (y338 ++ [(⟨a2,a1,false,t341⟩ : S52)] : List (S52))).bind fun y346 => ((spec_l20Good.f kj3 y346).bind fun t349 => (if t349 = true then (some (y346,true)) else (some ((([] : List (S52))),false))))) else (none))))) else (none))) = some (r1,r2):=by rw [if_neg (show ¬ (false = true) by decide)] at H;exact H
    clear H
    have H:=H1
    clear H1
    obtain ⟨y335,hy335⟩ : ∃ y_ : List (S52),y_ = (([] : List (S52))):=⟨_,rfl⟩
    replace H : (if y335.length + l0.length < 3518437208883 then ((some (y335 ++ l0 : List (S52))).bind fun y338 => ((spec_l20At.f kj3 l0 (l0.length : Int) a1).bind fun t341 => (if t341 = 0 then ((spec_l20Good.f kj3 y338).bind fun t342 => (if t342 = true then (some (y338,true)) else (some ((([] : List (S52))),false)))) else (if y338.length < 3518437208883 then ((some (y338 ++ [(⟨a2,a1,false,t341⟩ : S52)] : List (S52))).bind fun y346 => ((spec_l20Good.f kj3 y346).bind fun t349 => (if t349 = true then (some (y346,true)) else (some ((([] : List (S52))),false))))) else (none))))) else (none)) = some (r1,r2):=by (have H2_:=(Option.bind_some _ _).symm.trans H;rw [hy335];with_reducible exact H2_)
    have Ny335:=Aside0.mk hy335
    clear hy335
    by_cases c16 : y335.length + l0.length < 3518437208883
    ·rw [if_pos c16] at H
     have LMc16:=Aside0.mk c16
     clear c16
     obtain ⟨y338,hy338⟩ : ∃ y_ : List (S52),y_ = (y335 ++ l0):=⟨_,rfl⟩
     replace H : ((spec_l20At.f kj3 l0 (l0.length : Int) a1).bind fun t341 => (if t341 = 0 then ((spec_l20Good.f kj3 y338).bind fun t342 => (if t342 = true then (some (y338,true)) else (some ((([] : List (S52))),false)))) else (if y338.length < 3518437208883 then ((some (y338 ++ [(⟨a2,a1,false,t341⟩ : S52)] : List (S52))).bind fun y346 => ((spec_l20Good.f kj3 y346).bind fun t349 => (if t349 = true then (some (y346,true)) else (some ((([] : List (S52))),false))))) else (none)))) = some (r1,r2):=by (have H2_:=(Option.bind_some _ _).symm.trans H;rw [hy338];with_reducible exact H2_)
     have Ny338:=Aside0.mk hy338
     clear hy338
     replace H:=Option.bind_eq_some_iff.mp H
     obtain ⟨t341,A170,H⟩ := H
     replace H : (if t341 = 0 then ((spec_l20Good.f kj3 y338).bind fun t342 => (if t342 = true then (some (y338,true)) else (some ((([] : List (S52))),false)))) else (if y338.length < 3518437208883 then ((some (y338 ++ [(⟨a2,a1,false,t341⟩ : S52)] : List (S52))).bind fun y346 => ((spec_l20Good.f kj3 y346).bind fun t349 => (if t349 = true then (some (y346,true)) else (some ((([] : List (S52))),false))))) else (none))) = some (r1,r2):=H
     have A17:=Aside0.mk A170
     clear A170
     by_cases c18 : t341 = 0
     ·rw [if_pos c18] at H
      have c18b0 : (t341 == 0) = true:=beq_iff_eq.mpr c18
      have c18b1 : (t341 != 0) = false:=bne_eq_false_iff_eq.mpr c18
      clear c18
      replace H:=Option.bind_eq_some_iff.mp H
      obtain ⟨t342,A190,H⟩ := H
      replace H : (if t342 = true then (some (y338,true)) else (some ((([] : List (S52))),false))) = some (r1,r2):=H
      have A19:=Aside0.mk A190
      clear A190
      by_cases c20 : t342 = true
      ·subst c20
       have H1 : (some (y338,true)) = some (r1,r2):=by rw [if_pos rfl] at H;exact H
       clear H
       have H:=H1
       clear H1
       simp only [Option.some.injEq,Prod.mk.injEq] at H
       obtain ⟨rfl,rfl⟩ := H
       go_wp2_with (first | ((with_reducible refine gate_dst (N:=24) rfl ?_);refine Kd.R_lit k52 _ 52 ?hg (N:=24) ?hd (xs:=([] : List (S52))) (inner := []) (ok:=fun _ => True) (okp:=fun _ => True) ?hr ?hp (fun _ hk => hk) trivial (Below.refl _ _) (Nat.le_refl _) (by simp) ?_;(case hd => rfl);(case hg => rfl);(case hr => (go_simp;done));(case hp => exact (Reps.none _ _));intro v336 w21 ho22 hb hg_ hnew_;clear hg_ hnew_;(rw [← Ny335.out] at ho22);have n0_:=Aside0.mk (Kd.R_lower ho22 (below_size (by exact HB.out)));have n1_:=Aside0.mk (below_step (by exact HB.out) hb);clear HB;have HO337:=n0_;have HB:=n1_;clear n0_ n1_;clear hb ho22) | ((with_reducible refine gate_builtin (b := .append) (xs:=#[.tmp 24, .tmp 25]) rfl ?_);at_builtin;refine Kd.R_append_rows k52 (w0:=w) w.heap.size rfl (.tmp 24) (.tmp 25) 24 52 (.agg #[(.int .i64 0),(.string ⟨#[]⟩),(.bool false),(.int .i64 0)]) 40 rfl Try.underlying24 info52 rfl (by decide) (by omega) v336 y335 l0 _ _ _ (fun _ => True) (fun _ => False) rfl rfl ?aO ?aR (fun _ _ h => h) (fun _ h => h.elim) ?aF ?aB ?aS ?aL ?_;(case aR => repeat (exact (Kd.C_below HR0.out HB.out)));(case aB => exact (by exact HB.out));(case aF => exact (fun _ _ => trivial));(case aO => exact (by exact HO337.out));(case aS => exact (below_size (by exact HB.out)));(case aL => have:=LMc16.out;omega);intro v339 w23 ho hb hg hat;rw [← Ny338.out] at ho;have n0_:=Aside0.mk (hb);have n1_:=Aside0.mk (ho);clear HB;clear HO337;have HB:=n0_;have HO340:=n1_;clear n0_ n1_;clear ho hb hg hat) | ((with_reducible refine gate_callee (f:=35) rfl ?_);refine goesL_ (some 31) rfl rfl Try.func35 (by kernel_rfl) rfl #[.slice A0 l0.length c0, .int .i64 (l0.length : Int), .string a1] rfl (by (try simp only [List.map_toArray,List.map_cons,List.map_nil]);rfl) ?_;(with_reducible refine (spec_l20At.calls kj3 _ _ l0 (l0.length : Int) a1 t341 _ ?side1 ?side2 A17.out).mono ?_);(case side1 => repeat (exact (Kd.C_below HR0.out HB.out)));(case side2 => exact HC0.out);rintro e w' ⟨rfl,⟨nd,rfl⟩⟩;refine ⟨_,rfl, ?_⟩;obtain ⟨Ao24,co24,eo24⟩ := Kd.R_slice HO340.out;subst eo24) | ((with_reducible refine gate_callee (f:=32) rfl ?_);refine goesL_ (some 42) rfl rfl Try.func32 (by kernel_rfl) rfl #[.slice Ao24 y338.length co24] rfl (by (try simp only [List.map_toArray,List.map_cons,List.map_nil]);rfl) ?_;(with_reducible refine (spec_l20Good.calls kj3 _ _ y338 true _ ?side1 ?side2 A19.out).mono ?_);(case side1 => repeat (exact (Kd.R_reads' HO340.out).2.2));(case side2 => exact (Kd.R_reads' HO340.out).2.1);rintro e w25 ⟨rfl,hb⟩;refine ⟨_,rfl, ?_⟩;have n0_:=Aside0.mk (Kd.R_below (by (with_reducible repeat (apply Kd.R_drewN));exact HO340.out) hb);have n1_:=Aside0.mk (below_step (by repeat ((with_reducible first | exact HB.out | apply pw_below_drewN))) hb);clear HO340;clear HB;have HO340:=n0_;have HB:=n1_;clear n0_ n1_;(try clear hb)))
       go_ret2
       exact ⟨_,by rfl,by exact HO340.out,by exact HB.out⟩
      ·replace c20:=Bool.eq_false_iff.mpr c20
       subst c20
       have H1 : (some ((([] : List (S52))),false)) = some (r1,r2):=by rw [if_neg (show ¬ (false = true) by decide)] at H;exact H
       clear H
       have H:=H1
       clear H1
       obtain ⟨y343,hy343⟩ : ∃ y_ : List (S52),y_ = (([] : List (S52))):=⟨_,rfl⟩
       replace H : (some (y343,false)) = some (r1,r2):=by (rw [hy343];with_reducible exact H)
       have Ny343:=Aside0.mk hy343
       clear hy343
       simp only [Option.some.injEq,Prod.mk.injEq] at H
       obtain ⟨rfl,rfl⟩ := H
       go_wp2_with (first | ((with_reducible refine gate_dst (N:=24) rfl ?_);refine Kd.R_lit k52 _ 52 ?hg (N:=24) ?hd (xs:=([] : List (S52))) (inner := []) (ok:=fun _ => True) (okp:=fun _ => True) ?hr ?hp (fun _ hk => hk) trivial (Below.refl _ _) (Nat.le_refl _) (by simp) ?_;(case hd => rfl);(case hg => rfl);(case hr => (go_simp;done));(case hp => exact (Reps.none _ _));intro v336 w26 ho27 hb hg_ hnew_;clear hg_ hnew_;(rw [← Ny335.out] at ho27);have n0_:=Aside0.mk (Kd.R_lower ho27 (below_size (by exact HB.out)));have n1_:=Aside0.mk (below_step (by exact HB.out) hb);clear HB;have HO337:=n0_;have HB:=n1_;clear n0_ n1_;clear hb ho27) | ((with_reducible refine gate_builtin (b := .append) (xs:=#[.tmp 24, .tmp 25]) rfl ?_);at_builtin;refine Kd.R_append_rows k52 (w0:=w) w.heap.size rfl (.tmp 24) (.tmp 25) 24 52 (.agg #[(.int .i64 0),(.string ⟨#[]⟩),(.bool false),(.int .i64 0)]) 40 rfl Try.underlying24 info52 rfl (by decide) (by omega) v336 y335 l0 _ _ _ (fun _ => True) (fun _ => False) rfl rfl ?aO ?aR (fun _ _ h => h) (fun _ h => h.elim) ?aF ?aB ?aS ?aL ?_;(case aR => repeat (exact (Kd.C_below HR0.out HB.out)));(case aB => exact (by exact HB.out));(case aF => exact (fun _ _ => trivial));(case aO => exact (by exact HO337.out));(case aS => exact (below_size (by exact HB.out)));(case aL => have:=LMc16.out;omega);intro v339 w28 ho hb hg hat;rw [← Ny338.out] at ho;have n0_:=Aside0.mk (hb);have n1_:=Aside0.mk (ho);clear HB;clear HO337;have HB:=n0_;have HO340:=n1_;clear n0_ n1_;clear ho hb hg hat) | ((with_reducible refine gate_callee (f:=35) rfl ?_);refine goesL_ (some 31) rfl rfl Try.func35 (by kernel_rfl) rfl #[.slice A0 l0.length c0, .int .i64 (l0.length : Int), .string a1] rfl (by (try simp only [List.map_toArray,List.map_cons,List.map_nil]);rfl) ?_;(with_reducible refine (spec_l20At.calls kj3 _ _ l0 (l0.length : Int) a1 t341 _ ?side1 ?side2 A17.out).mono ?_);(case side1 => repeat (exact (Kd.C_below HR0.out HB.out)));(case side2 => exact HC0.out);rintro e w' ⟨rfl,⟨nd,rfl⟩⟩;refine ⟨_,rfl, ?_⟩;obtain ⟨Ao29,co29,eo29⟩ := Kd.R_slice HO340.out;subst eo29) | ((with_reducible refine gate_callee (f:=32) rfl ?_);refine goesL_ (some 42) rfl rfl Try.func32 (by kernel_rfl) rfl #[.slice Ao29 y338.length co29] rfl (by (try simp only [List.map_toArray,List.map_cons,List.map_nil]);rfl) ?_;(with_reducible refine (spec_l20Good.calls kj3 _ _ y338 false _ ?side1 ?side2 A19.out).mono ?_);(case side1 => repeat (exact (Kd.R_reads' HO340.out).2.2));(case side2 => exact (Kd.R_reads' HO340.out).2.1);rintro e w30 ⟨rfl,hb⟩;refine ⟨_,rfl, ?_⟩;have n0_:=Aside0.mk (Kd.R_below (by (with_reducible repeat (apply Kd.R_drewN));exact HO340.out) hb);have n1_:=Aside0.mk (below_step (by repeat ((with_reducible first | exact HB.out | apply pw_below_drewN))) hb);clear HO340;clear HB;have HO340:=n0_;have HB:=n1_;clear n0_ n1_;(try clear hb)) | ((with_reducible refine gate_dst (N:=44) rfl ?_);refine Kd.R_lit k52 _ 52 ?hg (N:=44) ?hd (xs:=([] : List (S52))) (inner := []) (ok:=fun _ => True) (okp:=fun _ => True) ?hr ?hp (fun _ hk => hk) trivial (Below.refl _ _) (Nat.le_refl _) (by simp) ?_;(case hd => rfl);(case hg => rfl);(case hr => (go_simp;done));(case hp => exact (Reps.none _ _));intro v344 w31 ho32 hb hg_ hnew_;clear hg_ hnew_;(rw [← Ny343.out] at ho32);have n0_:=Aside0.mk (Kd.R_elder' (by exact HO340.out) (Kd.R_base ho32) hb);have n1_:=Aside0.mk (Kd.R_lower (Kd.R_new' ho32 (Kd.R_lt (by exact HO340.out))) (below_size (by exact HB.out)));have n2_:=Aside0.mk (below_step (by exact HB.out) hb);clear HO340;clear HB;have HO340:=n0_;have HO345:=n1_;have HB:=n2_;clear n0_ n1_ n2_;clear hb ho32))
       go_ret2
       exact ⟨_,by rfl,by exact Kd.R_mono HO345.out (fun _ hk => trivial),by exact HB.out⟩
     ·rw [if_neg c18] at H
      have c18b0 : (t341 == 0) = false:=beq_eq_false_iff_ne.mpr c18
      have c18b1 : (t341 != 0) = true:=bne_iff_ne.mpr c18
      by_cases c33 : y338.length < 3518437208883
      ·rw [if_pos c33] at H
       have LMc33:=Aside0.mk c33
       clear c33
       obtain ⟨y346,hy346⟩ : ∃ y_ : List (S52),y_ = (y338 ++ [(⟨a2,a1,false,t341⟩ : S52)]):=⟨_,rfl⟩
       replace H : ((spec_l20Good.f kj3 y346).bind fun t349 => (if t349 = true then (some (y346,true)) else (some ((([] : List (S52))),false)))) = some (r1,r2):=by (have H2_:=(Option.bind_some _ _).symm.trans H;rw [hy346];with_reducible exact H2_)
       have Ny346:=Aside0.mk hy346
       clear hy346
       replace H:=Option.bind_eq_some_iff.mp H
       obtain ⟨t349,A340,H⟩ := H
       replace H : (if t349 = true then (some (y346,true)) else (some ((([] : List (S52))),false))) = some (r1,r2):=H
       have A34:=Aside0.mk A340
       clear A340
       by_cases c35 : t349 = true
       ·subst c35
        have H1 : (some (y346,true)) = some (r1,r2):=by rw [if_pos rfl] at H;exact H
        clear H
        have H:=H1
        clear H1
        simp only [Option.some.injEq,Prod.mk.injEq] at H
        obtain ⟨rfl,rfl⟩ := H
        go_wp2_with (first | ((with_reducible refine gate_dst (N:=24) rfl ?_);refine Kd.R_lit k52 _ 52 ?hg (N:=24) ?hd (xs:=([] : List (S52))) (inner := []) (ok:=fun _ => True) (okp:=fun _ => True) ?hr ?hp (fun _ hk => hk) trivial (Below.refl _ _) (Nat.le_refl _) (by simp) ?_;(case hd => rfl);(case hg => rfl);(case hr => (go_simp;done));(case hp => exact (Reps.none _ _));intro v336 w36 ho37 hb hg_ hnew_;clear hg_ hnew_;(rw [← Ny335.out] at ho37);have n0_:=Aside0.mk (Kd.R_lower ho37 (below_size (by exact HB.out)));have n1_:=Aside0.mk (below_step (by exact HB.out) hb);clear HB;have HO337:=n0_;have HB:=n1_;clear n0_ n1_;clear hb ho37) | ((with_reducible refine gate_builtin (b := .append) (xs:=#[.tmp 24, .tmp 25]) rfl ?_);at_builtin;refine Kd.R_append_rows k52 (w0:=w) w.heap.size rfl (.tmp 24) (.tmp 25) 24 52 (.agg #[(.int .i64 0),(.string ⟨#[]⟩),(.bool false),(.int .i64 0)]) 40 rfl Try.underlying24 info52 rfl (by decide) (by omega) v336 y335 l0 _ _ _ (fun _ => True) (fun _ => False) rfl rfl ?aO ?aR (fun _ _ h => h) (fun _ h => h.elim) ?aF ?aB ?aS ?aL ?_;(case aR => repeat (exact (Kd.C_below HR0.out HB.out)));(case aB => exact (by exact HB.out));(case aF => exact (fun _ _ => trivial));(case aO => exact (by exact HO337.out));(case aS => exact (below_size (by exact HB.out)));(case aL => have:=LMc16.out;omega);intro v339 w38 ho hb hg hat;rw [← Ny338.out] at ho;have n0_:=Aside0.mk (hb);have n1_:=Aside0.mk (ho);clear HB;clear HO337;have HB:=n0_;have HO340:=n1_;clear n0_ n1_;clear ho hb hg hat) | ((with_reducible refine gate_callee (f:=35) rfl ?_);refine goesL_ (some 31) rfl rfl Try.func35 (by kernel_rfl) rfl #[.slice A0 l0.length c0, .int .i64 (l0.length : Int), .string a1] rfl (by (try simp only [List.map_toArray,List.map_cons,List.map_nil]);rfl) ?_;(with_reducible refine (spec_l20At.calls kj3 _ _ l0 (l0.length : Int) a1 t341 _ ?side1 ?side2 A17.out).mono ?_);(case side1 => repeat (exact (Kd.C_below HR0.out HB.out)));(case side2 => exact HC0.out);rintro e w' ⟨rfl,⟨nd,rfl⟩⟩;refine ⟨_,rfl, ?_⟩) | ((with_reducible refine gate_builtin (b := .append) (xs:=#[.tmp 34, .tmp 39]) rfl ?_);at_builtin;refine Kd.R_append k52 (w0:=w) w.heap.size rfl (.tmp 34) (.tmp 39) 24 52 (.agg #[(.int .i64 0),(.string ⟨#[]⟩),(.bool false),(.int .i64 0)]) 40 rfl Try.underlying24 info52 rfl (by decide) (by omega) v339 y338 (⟨a2,a1,false,t341⟩ : S52) [.int .i64 a2, .string a1, .bool false, .int .i64 t341] (fun _ => True) (fun _ => False) rfl rfl ?aP (fun _ hk => hk.elim) ?aF ?aO ?aB ?aS ?aL ?_;(case aP => exact k52_mkM _ _ _ (⟨a2,a1,false,t341⟩ : S52));(case aB => exact (by repeat ((with_reducible first | exact HB.out | apply pw_below_drewN))));(case aF => exact (fun _ _ => trivial));(case aO => exact (by (with_reducible repeat (apply Kd.R_drewN));exact HO340.out));(case aS => exact (below_size (by repeat ((with_reducible first | exact HB.out | apply pw_below_drewN)))));(case aL => have:=LMc33.out;omega);intro v347 w39 ho hb hg hat;rw [← Ny346.out] at ho;have n0_:=Aside0.mk (hb);have n1_:=Aside0.mk (ho);clear HB;clear HO340;have HB:=n0_;have HO348:=n1_;clear n0_ n1_;clear ho hb hg hat;obtain ⟨Ao40,co40,eo40⟩ := Kd.R_slice HO348.out;subst eo40) | ((with_reducible refine gate_callee (f:=32) rfl ?_);refine goesL_ (some 42) rfl rfl Try.func32 (by kernel_rfl) rfl #[.slice Ao40 y346.length co40] rfl (by (try simp only [List.map_toArray,List.map_cons,List.map_nil]);rfl) ?_;(with_reducible refine (spec_l20Good.calls kj3 _ _ y346 true _ ?side1 ?side2 A34.out).mono ?_);(case side1 => repeat (exact (Kd.R_reads' HO348.out).2.2));(case side2 => exact (Kd.R_reads' HO348.out).2.1);rintro e w41 ⟨rfl,hb⟩;refine ⟨_,rfl, ?_⟩;have n0_:=Aside0.mk (Kd.R_below (by exact HO348.out) hb);have n1_:=Aside0.mk (below_step (by exact HB.out) hb);clear HO348;clear HB;have HO348:=n0_;have HB:=n1_;clear n0_ n1_;(try clear hb)))
        go_ret2
        exact ⟨_,by rfl,by exact HO348.out,by exact HB.out⟩
       ·replace c35:=Bool.eq_false_iff.mpr c35
        subst c35
        have H1 : (some ((([] : List (S52))),false)) = some (r1,r2):=by rw [if_neg (show ¬ (false = true) by decide)] at H;exact H
        clear H
        have H:=H1
        clear H1
        obtain ⟨y350,hy350⟩ : ∃ y_ : List (S52),y_ = (([] : List (S52))):=⟨_,rfl⟩
        replace H : (some (y350,false)) = some (r1,r2):=by (rw [hy350];with_reducible exact H)
        have Ny350:=Aside0.mk hy350
        clear hy350
        simp only [Option.some.injEq,Prod.mk.injEq] at H
        obtain ⟨rfl,rfl⟩ := H
        go_wp2_with (first | ((with_reducible refine gate_dst (N:=24) rfl ?_);refine Kd.R_lit k52 _ 52 ?hg (N:=24) ?hd (xs:=([] : List (S52))) (inner := []) (ok:=fun _ => True) (okp:=fun _ => True) ?hr ?hp (fun _ hk => hk) trivial (Below.refl _ _) (Nat.le_refl _) (by simp) ?_;(case hd => rfl);(case hg => rfl);(case hr => (go_simp;done));(case hp => exact (Reps.none _ _));intro v336 w42 ho43 hb hg_ hnew_;clear hg_ hnew_;(rw [← Ny335.out] at ho43);have n0_:=Aside0.mk (Kd.R_lower ho43 (below_size (by exact HB.out)));have n1_:=Aside0.mk (below_step (by exact HB.out) hb);clear HB;have HO337:=n0_;have HB:=n1_;clear n0_ n1_;clear hb ho43) | ((with_reducible refine gate_builtin (b := .append) (xs:=#[.tmp 24, .tmp 25]) rfl ?_);at_builtin;refine Kd.R_append_rows k52 (w0:=w) w.heap.size rfl (.tmp 24) (.tmp 25) 24 52 (.agg #[(.int .i64 0),(.string ⟨#[]⟩),(.bool false),(.int .i64 0)]) 40 rfl Try.underlying24 info52 rfl (by decide) (by omega) v336 y335 l0 _ _ _ (fun _ => True) (fun _ => False) rfl rfl ?aO ?aR (fun _ _ h => h) (fun _ h => h.elim) ?aF ?aB ?aS ?aL ?_;(case aR => repeat (exact (Kd.C_below HR0.out HB.out)));(case aB => exact (by exact HB.out));(case aF => exact (fun _ _ => trivial));(case aO => exact (by exact HO337.out));(case aS => exact (below_size (by exact HB.out)));(case aL => have:=LMc16.out;omega);intro v339 w44 ho hb hg hat;rw [← Ny338.out] at ho;have n0_:=Aside0.mk (hb);have n1_:=Aside0.mk (ho);clear HB;clear HO337;have HB:=n0_;have HO340:=n1_;clear n0_ n1_;clear ho hb hg hat) | ((with_reducible refine gate_callee (f:=35) rfl ?_);refine goesL_ (some 31) rfl rfl Try.func35 (by kernel_rfl) rfl #[.slice A0 l0.length c0, .int .i64 (l0.length : Int), .string a1] rfl (by (try simp only [List.map_toArray,List.map_cons,List.map_nil]);rfl) ?_;(with_reducible refine (spec_l20At.calls kj3 _ _ l0 (l0.length : Int) a1 t341 _ ?side1 ?side2 A17.out).mono ?_);(case side1 => repeat (exact (Kd.C_below HR0.out HB.out)));(case side2 => exact HC0.out);rintro e w' ⟨rfl,⟨nd,rfl⟩⟩;refine ⟨_,rfl, ?_⟩) | ((with_reducible refine gate_builtin (b := .append) (xs:=#[.tmp 34, .tmp 39]) rfl ?_);at_builtin;refine Kd.R_append k52 (w0:=w) w.heap.size rfl (.tmp 34) (.tmp 39) 24 52 (.agg #[(.int .i64 0),(.string ⟨#[]⟩),(.bool false),(.int .i64 0)]) 40 rfl Try.underlying24 info52 rfl (by decide) (by omega) v339 y338 (⟨a2,a1,false,t341⟩ : S52) [.int .i64 a2, .string a1, .bool false, .int .i64 t341] (fun _ => True) (fun _ => False) rfl rfl ?aP (fun _ hk => hk.elim) ?aF ?aO ?aB ?aS ?aL ?_;(case aP => exact k52_mkM _ _ _ (⟨a2,a1,false,t341⟩ : S52));(case aB => exact (by repeat ((with_reducible first | exact HB.out | apply pw_below_drewN))));(case aF => exact (fun _ _ => trivial));(case aO => exact (by (with_reducible repeat (apply Kd.R_drewN));exact HO340.out));(case aS => exact (below_size (by repeat ((with_reducible first | exact HB.out | apply pw_below_drewN)))));(case aL => have:=LMc33.out;omega);intro v347 w45 ho hb hg hat;rw [← Ny346.out] at ho;have n0_:=Aside0.mk (hb);have n1_:=Aside0.mk (ho);clear HB;clear HO340;have HB:=n0_;have HO348:=n1_;clear n0_ n1_;clear ho hb hg hat;obtain ⟨Ao46,co46,eo46⟩ := Kd.R_slice HO348.out;subst eo46) | ((with_reducible refine gate_callee (f:=32) rfl ?_);refine goesL_ (some 42) rfl rfl Try.func32 (by kernel_rfl) rfl #[.slice Ao46 y346.length co46] rfl (by (try simp only [List.map_toArray,List.map_cons,List.map_nil]);rfl) ?_;(with_reducible refine (spec_l20Good.calls kj3 _ _ y346 false _ ?side1 ?side2 A34.out).mono ?_);(case side1 => repeat (exact (Kd.R_reads' HO348.out).2.2));(case side2 => exact (Kd.R_reads' HO348.out).2.1);rintro e w47 ⟨rfl,hb⟩;refine ⟨_,rfl, ?_⟩;have n0_:=Aside0.mk (Kd.R_below (by exact HO348.out) hb);have n1_:=Aside0.mk (below_step (by exact HB.out) hb);clear HO348;clear HB;have HO348:=n0_;have HB:=n1_;clear n0_ n1_;(try clear hb)) | ((with_reducible refine gate_dst (N:=44) rfl ?_);refine Kd.R_lit k52 _ 52 ?hg (N:=44) ?hd (xs:=([] : List (S52))) (inner := []) (ok:=fun _ => True) (okp:=fun _ => True) ?hr ?hp (fun _ hk => hk) trivial (Below.refl _ _) (Nat.le_refl _) (by simp) ?_;(case hd => rfl);(case hg => rfl);(case hr => (go_simp;done));(case hp => exact (Reps.none _ _));intro v351 w48 ho49 hb hg_ hnew_;clear hg_ hnew_;(rw [← Ny350.out] at ho49);have n0_:=Aside0.mk (Kd.R_elder' (by exact HO348.out) (Kd.R_base ho49) hb);have n1_:=Aside0.mk (Kd.R_lower (Kd.R_new' ho49 (Kd.R_lt (by exact HO348.out))) (below_size (by exact HB.out)));have n2_:=Aside0.mk (below_step (by exact HB.out) hb);clear HO348;clear HB;have HO348:=n0_;have HO352:=n1_;have HB:=n2_;clear n0_ n1_ n2_;clear hb ho49))
        go_ret2
        exact ⟨_,by rfl,by exact Kd.R_mono HO352.out (fun _ hk => trivial),by exact HB.out⟩
      ·rw [if_neg c33] at H
       exact absurd H (by simp)
    ·rw [if_neg c16] at H
     exact absurd H (by simp)

/-! ### laws_rFiles: function 9 -/
def laws_rFiles.l0 : Nat → List (S52) → List (S52) → Int → Option (Bool)
 | 0,_,_,_ => none
 | k + 1,x0,x1,x5 => if x5 < (x0.length : Int) then (if 0 ≤ x5 then (if x5 < (x1.length : Int) then (if (!(((rd_T52 x0 x5).f0) == ((rd_T52 x1 x5).f0)) || (!((((rd_T52 x0 x5).f1).toList) == (((rd_T52 x1 x5).f1).toList)) || (!(((rd_T52 x0 x5).f2) == ((rd_T52 x1 x5).f2)) || (!(((rd_T52 x0 x5).f3) == ((rd_T52 x1 x5).f3)))))) = true then (some false) else (laws_rFiles.l0 k x0 x1 (wrap64 (x5 + 1)))) else (none)) else (none)) else (some true)
def laws_rFiles.f (k : Nat) (l0 : List (S52)) (l1 : List (S52)) : Option (Bool):=if (l0.length : Int) = (l1.length : Int) then (laws_rFiles.l0 k l0 l1 0) else (some false)
theorem laws_rFiles.mono_l : ∀ k,(∀ y0 y1 y2,LeO (laws_rFiles.l0 k y0 y1 y2) (laws_rFiles.l0 (k + 1) y0 y1 y2))
 | 0 => fun _ _ _ r h => by simp [laws_rFiles.l0] at h
 | k + 1 => by
  have ih0:=laws_rFiles.mono_l k
  ·intro y0 y1 y2
   unfold laws_rFiles.l0
   repeat' first
   | (with_reducible exact ih0 _ _ _)
   | (with_reducible exact LeO.refl _)
   | (with_reducible exact LeO.none _)
   | (with_reducible refine LeO.ite ?_ ?_)
   | (with_reducible refine LeO.bind ?_ (fun _ => ?_))
   | exact ih0 _ _ _
   | exact LeO.none _
   | refine LeO.ite ?_ ?_
   | refine LeO.bind ?_ (fun _ => ?_)
theorem laws_rFiles.mono : ∀ a0 a1 k,LeO (laws_rFiles.f k a0 a1) (laws_rFiles.f (k + 1) a0 a1):=by
 intro a0 a1 k
 have ih0:=laws_rFiles.mono_l k
 unfold laws_rFiles.f
 repeat' first
   | (with_reducible exact ih0 _ _ _)
   | (with_reducible exact LeO.refl _)
   | (with_reducible exact LeO.none _)
   | (with_reducible refine LeO.ite ?_ ?_)
   | (with_reducible refine LeO.bind ?_ (fun _ => ?_))
   | exact ih0 _ _ _
   | exact LeO.none _
   | refine LeO.ite ?_ ?_
   | refine LeO.bind ?_ (fun _ => ?_)
set_option maxHeartbeats 8000000 in
set_option maxRecDepth 100000 in
theorem laws_rFiles.calls (k : Nat) (A0 : Option Addr) (c0 : Nat) (l0 : List (S52)) (A1 : Option Addr) (c1 : Nat) (l1 : List (S52)) (r : Bool) (w : World) (hr0 : Kd.C k52 w A0 l0.length l0) (hc0 : l0.length ≤ c0) (hr1 : Kd.C k52 w A1 l1.length l1) (hc1 : l1.length ≤ c1) (h : laws_rFiles.f k l0 l1 = some r) :
  Calls Try.prog 9 #[.slice A0 l0.length c0, .slice A1 l1.length c1] w fun e w' => e = .returned (.bool r) ∧ Drawn0 w w':=by
 have hu52:=Try.underlying52
 have HR0:=Aside0.mk hr0
 have HC0:=Aside0.mk hc0
 clear hr0 hc0
 have HR1:=Aside0.mk hr1
 have HC1:=Aside0.mk hc1
 clear hr1 hc1
 have H : (if (l0.length : Int) = (l1.length : Int) then (laws_rFiles.l0 k l0 l1 0) else (some false)) = some r:=h
 clear h
 by_cases c3 : (l0.length : Int) = (l1.length : Int)
 ·rw [if_pos c3] at H
  have c3b0 : ((l0.length : Int) == (l1.length : Int)) = true:=beq_iff_eq.mpr c3
  have c3b1 : ((l0.length : Int) != (l1.length : Int)) = false:=bne_eq_false_iff_eq.mpr c3
  have c3b2 : (l0.length == l1.length) = true:=by (simp at c3 ⊢;omega)
  clear c3
  have H':=Aside0.mk H
  clear H
  go_enter Try.func9,Try.ntmps9
  go_wp2
  repeat (go_quiet (fail);try go_wp2)
  (skip)
  go_loopg [5] k (fun kq v5 w' => ∃ (x5_1 : Int),v5 = .int .i64 x5_1 ∧ Aside0 (laws_rFiles.l0 kq l0 l1 x5_1 = some r) ∧ Aside0 (kq ≤ k) ∧ Drawn0 w w')
  case atStart => exact ⟨(0),(by rfl),H',⟨Nat.le_refl _⟩,by repeat (exact Drawn0.refl _)⟩
  case round =>
   clear H'
   try clear c1
   try clear p2
   try clear c3
   try clear c3b0
   try clear c3b1
   try clear c3b2
   obtain ⟨x5_1,rfl,HA,HK1,⟨m1,rfl⟩⟩ := hrel
   cases gk with
   | zero => exact absurd HA.out (by simp [laws_rFiles.l0])
   | succ k1 =>
    have H:=HA.out
    clear HA
    simp only [laws_rFiles.l0] at H
    by_cases c4 : x5_1 < (l0.length : Int)
    ·rw [if_pos c4] at H
     have c4b0 : decide (x5_1 < (l0.length : Int)) = true:=decide_eq_true c4
     clear c4
     by_cases c5 : 0 ≤ x5_1
     ·rw [if_pos c5] at H
      have c5b0 : decide (0 ≤ x5_1) = true:=decide_eq_true c5
      clear c5
      by_cases c6 : x5_1 < (l1.length : Int)
      ·rw [if_pos c6] at H
       have c6b0 : decide (x5_1 < (l1.length : Int)) = true:=decide_eq_true c6
       clear c6
       by_cases c7 : (!(((rd_T52 l0 x5_1).f0) == ((rd_T52 l1 x5_1).f0)) || (!((((rd_T52 l0 x5_1).f1).toList) == (((rd_T52 l1 x5_1).f1).toList)) || (!(((rd_T52 l0 x5_1).f2) == ((rd_T52 l1 x5_1).f2)) || (!(((rd_T52 l0 x5_1).f3) == ((rd_T52 l1 x5_1).f3)))))) = true
       ·rw [if_pos c7] at H
        have c7b0 : (!(((rd_T52 l0 x5_1).f0) == ((rd_T52 l1 x5_1).f0)) || (!((((rd_T52 l0 x5_1).f1).toList) == (((rd_T52 l1 x5_1).f1).toList)) || (!(((rd_T52 l0 x5_1).f2) == ((rd_T52 l1 x5_1).f2)) || (!(((rd_T52 l0 x5_1).f3) == ((rd_T52 l1 x5_1).f3)))))) = true:=c7
        clear c7
        obtain rfl:=Option.some.inj H
        have p353 : 0 ≤ (x5_1 : Int):=of_decide_eq_true (by (with_reducible assumption))
        have q353 : x5_1 < (l0.length : Int):=of_decide_eq_true (by (with_reducible assumption))
        obtain ⟨ad353,e353,hx353_0,hx353_1,hx353_2,hx353_3⟩ := at_T52 HR0.out x5_1 p353 q353
        cases e353
        replace p353:=eq_true p353
        replace q353:=eq_true q353
        have p354 : 0 ≤ (x5_1 : Int):=of_decide_eq_true (by (with_reducible assumption))
        have q354 : x5_1 < (l1.length : Int):=of_decide_eq_true (by (with_reducible assumption))
        obtain ⟨ad354,e354,hx354_0,hx354_1,hx354_2,hx354_3⟩ := at_T52 HR1.out x5_1 p354 q354
        cases e354
        replace p354:=eq_true p354
        replace q354:=eq_true q354
        go_wp2
        repeat (go_quiet (fail);try go_wp2)
        go_ret
        exact ⟨by rfl,by repeat (first | exact Drawn0.refl _ | apply Drawn0.step)⟩
       ·rw [if_neg c7] at H
        have c7b0 : (!(((rd_T52 l0 x5_1).f0) == ((rd_T52 l1 x5_1).f0)) || (!((((rd_T52 l0 x5_1).f1).toList) == (((rd_T52 l1 x5_1).f1).toList)) || (!(((rd_T52 l0 x5_1).f2) == ((rd_T52 l1 x5_1).f2)) || (!(((rd_T52 l0 x5_1).f3) == ((rd_T52 l1 x5_1).f3)))))) = false:=by simpa using c7
        clear c7
        have H':=Aside0.mk H
        clear H
        have p353 : 0 ≤ (x5_1 : Int):=of_decide_eq_true (by (with_reducible assumption))
        have q353 : x5_1 < (l0.length : Int):=of_decide_eq_true (by (with_reducible assumption))
        obtain ⟨ad353,e353,hx353_0,hx353_1,hx353_2,hx353_3⟩ := at_T52 HR0.out x5_1 p353 q353
        cases e353
        replace p353:=eq_true p353
        replace q353:=eq_true q353
        have p354 : 0 ≤ (x5_1 : Int):=of_decide_eq_true (by (with_reducible assumption))
        have q354 : x5_1 < (l1.length : Int):=of_decide_eq_true (by (with_reducible assumption))
        obtain ⟨ad354,e354,hx354_0,hx354_1,hx354_2,hx354_3⟩ := at_T52 HR1.out x5_1 p354 q354
        cases e354
        replace p354:=eq_true p354
        replace q354:=eq_true q354
        go_wp2
        repeat (go_quiet (fail);try go_wp2)
        go_roundg k1
        case measure => have:=HK1.out;omega
        case rel => exact ⟨(wrap64 (x5_1 + 1)),(by rfl),H',⟨by have:=HK1.out;omega⟩,by repeat (first | exact Drawn0.refl _ | apply Drawn0.step)⟩
      ·rw [if_neg c6] at H
       exact absurd H (by simp)
     ·rw [if_neg c5] at H
      exact absurd H (by simp)
    ·rw [if_neg c4] at H
     have c4b0 : decide (x5_1 < (l0.length : Int)) = false:=decide_eq_false c4
     clear c4
     obtain rfl:=Option.some.inj H
     go_wp2
     repeat (go_quiet (fail);try go_wp2)
     go_ret
     exact ⟨by rfl,by repeat (first | exact Drawn0.refl _ | apply Drawn0.step)⟩
 ·rw [if_neg c3] at H
  have c3b0 : ((l0.length : Int) == (l1.length : Int)) = false:=beq_eq_false_iff_ne.mpr c3
  have c3b1 : ((l0.length : Int) != (l1.length : Int)) = true:=bne_iff_ne.mpr c3
  have c3b2 : (l0.length == l1.length) = false:=by (simp at c3 ⊢;omega)
  obtain rfl:=Option.some.inj H
  go_enter Try.func9,Try.ntmps9
  go_wp2
  repeat (go_quiet (fail);try go_wp2)
  go_ret
  exact ⟨by rfl,by repeat (exact Drawn0.refl _)⟩

/-! ### impl_HoldsOn: function 10 -/
def impl_HoldsOn.f (k : Nat) (l0 : List (S52)) (a1 : ByteArray) (a2 : Int) : Option (Int × Bool):=(impl_isFileAt.f k l0 a1 a2).bind fun t355 => (if t355 = true then ((impl_holdsOn.f k l0 a1 a2).bind fun t356 => (some (t356,true))) else (some (0,false)))
theorem impl_HoldsOn.mono : ∀ a0 a1 a2 k,LeO (impl_HoldsOn.f k a0 a1 a2) (impl_HoldsOn.f (k + 1) a0 a1 a2):=by
 intro a0 a1 a2 k
 unfold impl_HoldsOn.f
 repeat' first
   | (with_reducible exact impl_holdsOn.mono _ _ _ _)
   | (with_reducible exact impl_isFileAt.mono _ _ _ _)
   | (with_reducible exact LeO.refl _)
   | (with_reducible exact LeO.none _)
   | (with_reducible refine LeO.ite ?_ ?_)
   | (with_reducible refine LeO.bind ?_ (fun _ => ?_))
   | exact impl_holdsOn.mono _ _ _ _
   | exact impl_isFileAt.mono _ _ _ _
   | exact LeO.none _
   | refine LeO.ite ?_ ?_
   | refine LeO.bind ?_ (fun _ => ?_)
set_option maxHeartbeats 8000000 in
set_option maxRecDepth 100000 in
theorem impl_HoldsOn.calls (k : Nat) (A0 : Option Addr) (c0 : Nat) (l0 : List (S52)) (a1 : ByteArray) (a2 : Int) (r1 : Int) (r2 : Bool) (w : World) (hr0 : Kd.C k52 w A0 l0.length l0) (hc0 : l0.length ≤ c0) (h : impl_HoldsOn.f k l0 a1 a2 = some (r1,r2)) :
  Calls Try.prog 10 #[.slice A0 l0.length c0, .string a1, .int .i64 a2] w fun e w' => e = .returned (.tuple #[.int .i64 r1, .bool r2]) ∧ Below w.heap.size w w':=by
 have HR0:=Aside0.mk hr0
 have HC0:=Aside0.mk hc0
 clear hr0 hc0
 have HB:=Aside0.mk (Below.refl w.heap.size w)
 have H : ((impl_isFileAt.f k l0 a1 a2).bind fun t355 => (if t355 = true then ((impl_holdsOn.f k l0 a1 a2).bind fun t356 => (some (t356,true))) else (some (0,false)))) = some (r1,r2):=h
 clear h
 replace H:=Option.bind_eq_some_iff.mp H
 obtain ⟨t355,A40,H⟩ := H
 replace H : (if t355 = true then ((impl_holdsOn.f k l0 a1 a2).bind fun t356 => (some (t356,true))) else (some (0,false))) = some (r1,r2):=H
 have A4:=Aside0.mk A40
 clear A40
 by_cases c5 : t355 = true
 ·subst c5
  have H1 : ((impl_holdsOn.f k l0 a1 a2).bind fun t356 => (some (t356,true))) = some (r1,r2):=by rw [if_pos rfl] at H;exact H
  clear H
  have H:=H1
  clear H1
  replace H:=Option.bind_eq_some_iff.mp H
  obtain ⟨t356,A60,H⟩ := H
  replace H : (some (t356,true)) = some (r1,r2):=H
  have A6:=Aside0.mk A60
  clear A60
  simp only [Option.some.injEq,Prod.mk.injEq] at H
  obtain ⟨rfl,rfl⟩ := H
  go_enter Try.func10,Try.ntmps10
  go_wp2_with (first | ((with_reducible refine gate_callee (f:=28) rfl ?_);refine goesL_ (some 11) rfl rfl Try.func28 (by kernel_rfl) rfl #[.slice A0 l0.length c0, .string a1, .int .i64 a2] rfl (by (try simp only [List.map_toArray,List.map_cons,List.map_nil]);rfl) ?_;(with_reducible refine (impl_isFileAt.calls k _ _ l0 a1 a2 true _ ?side1 ?side2 A4.out).mono ?_);(case side1 => repeat (exact HR0.out));(case side2 => exact HC0.out);rintro e w7 ⟨rfl,hb⟩;refine ⟨_,rfl, ?_⟩;have n0_:=Aside0.mk (below_step (by exact HB.out) hb);clear HB;have HB:=n0_;clear n0_;(try clear hb)) | ((with_reducible refine gate_callee (f:=29) rfl ?_);refine goesL_ (some 16) rfl rfl Try.func29 (by kernel_rfl) rfl #[.slice A0 l0.length c0, .string a1, .int .i64 a2] rfl (by (try simp only [List.map_toArray,List.map_cons,List.map_nil]);rfl) ?_;(with_reducible refine (impl_holdsOn.calls k _ _ l0 a1 a2 t356 _ ?side1 ?side2 A6.out).mono ?_);(case side1 => repeat (exact (Kd.C_below HR0.out HB.out)));(case side2 => exact HC0.out);rintro e w8 ⟨rfl,hb⟩;refine ⟨_,rfl, ?_⟩;have n0_:=Aside0.mk (below_step (by exact HB.out) hb);clear HB;have HB:=n0_;clear n0_;(try clear hb)))
  go_ret2
  exact ⟨by rfl,by exact HB.out⟩
 ·replace c5:=Bool.eq_false_iff.mpr c5
  subst c5
  have H1 : (some (0,false)) = some (r1,r2):=by rw [if_neg (show ¬ (false = true) by decide)] at H;exact H
  clear H
  have H:=H1
  clear H1
  simp only [Option.some.injEq,Prod.mk.injEq] at H
  obtain ⟨rfl,rfl⟩ := H
  go_enter Try.func10,Try.ntmps10
  go_wp2_with (((with_reducible refine gate_callee (f:=28) rfl ?_);refine goesL_ (some 11) rfl rfl Try.func28 (by kernel_rfl) rfl #[.slice A0 l0.length c0, .string a1, .int .i64 a2] rfl (by (try simp only [List.map_toArray,List.map_cons,List.map_nil]);rfl) ?_;(with_reducible refine (impl_isFileAt.calls k _ _ l0 a1 a2 false _ ?side1 ?side2 A4.out).mono ?_);(case side1 => repeat (exact HR0.out));(case side2 => exact HC0.out);rintro e w9 ⟨rfl,hb⟩;refine ⟨_,rfl, ?_⟩;have n0_:=Aside0.mk (below_step (by exact HB.out) hb);clear HB;have HB:=n0_;clear n0_;(try clear hb)))
  go_ret2
  exact ⟨by rfl,by exact HB.out⟩

/-! ### spec_DrawHeldContainers: function 12 -/
def spec_DrawHeldContainers.f (k : Nat) (l0 : List Int) : Option ((List (S52)) × Int):=(spec_l1Cur_file.f k l0 0 0).bind fun bt358 => ((spec_l1Cur_hour20.f l0 bt358.2.1 bt358.2.2).bind fun bt363 => (some (bt358.1,bt363.1)))
theorem spec_DrawHeldContainers.mono : ∀ a0 k,LeO (spec_DrawHeldContainers.f k a0) (spec_DrawHeldContainers.f (k + 1) a0):=by
 intro a0 k
 unfold spec_DrawHeldContainers.f
 repeat' first
   | (with_reducible exact spec_l1Cur_file.mono _ _ _ _)
   | (with_reducible exact LeO.refl _)
   | (with_reducible exact LeO.none _)
   | (with_reducible refine LeO.ite ?_ ?_)
   | (with_reducible refine LeO.bind ?_ (fun _ => ?_))
   | exact spec_l1Cur_file.mono _ _ _ _
   | exact LeO.none _
   | refine LeO.ite ?_ ?_
   | refine LeO.bind ?_ (fun _ => ?_)
set_option maxHeartbeats 8000000 in
set_option maxRecDepth 100000 in
theorem spec_DrawHeldContainers.calls (k : Nat) (A0 : Option Addr) (c0 : Nat) (l0 : List Int) (r1 : List (S52)) (r2 : Int) (w : World) (hr0 : Kd.C (Kd.int .u8) w A0 l0.length l0) (hc0 : l0.length ≤ c0) (h : spec_DrawHeldContainers.f k l0 = some (r1,r2)) :
  Calls Try.prog 12 #[.slice A0 l0.length c0] w fun e w' => ∃ v0_ : Value,e = .returned (.tuple #[v0_, .int .i64 r2]) ∧ Kd.Q k52 52 w' w.heap.size (fun _ => True) v0_ r1 ∧ Below w.heap.size w w':=by
 have hu61:=Try.underlying61
 have HR0:=Aside0.mk hr0
 have HC0:=Aside0.mk hc0
 clear hr0 hc0
 have HB:=Aside0.mk (Below.refl w.heap.size w)
 have H : ((spec_l1Cur_file.f k l0 0 0).bind fun bt358 => ((spec_l1Cur_hour20.f l0 bt358.2.1 bt358.2.2).bind fun bt363 => (some (bt358.1,bt363.1)))) = some (r1,r2):=h
 clear h
 replace H:=Option.bind_eq_some_iff.mp H
 obtain ⟨⟨t358,t361,t362⟩,A20,H⟩ := H
 replace H : ((spec_l1Cur_hour20.f l0 t361 t362).bind fun bt363 => (some (t358,bt363.1))) = some (r1,r2):=H
 have A2:=Aside0.mk A20
 clear A20
 replace H:=Option.bind_eq_some_iff.mp H
 obtain ⟨⟨t363,t364,t365⟩,A30,H⟩ := H
 replace H : (some (t358,t363)) = some (r1,r2):=H
 have A3:=Aside0.mk A30
 clear A30
 simp only [Option.some.injEq,Prod.mk.injEq] at H
 obtain ⟨rfl,rfl⟩ := H
 go_enter Try.func12,Try.ntmps12
 go_wp2_with (first | ((with_reducible refine gate_dst (N:=8) rfl ?_);refine box_event ?hg (N:=8) ?hd (cs:=#[.slice A0 l0.length c0, .int .i64 0, .int .u64 0]) (t:=61) ?hr ?_;(case hd => rfl);(case hg => rfl);(case hr => (go_simp;done));intro gb357 hg w4 hbox hb;have n0_:=Aside0.mk (below_step (by exact HB.out) hb);have n1_:=Aside0.mk ((show IsS61 w _ gb357 l0 0 0 from ⟨_,_,hbox,(by rw [hg];exact (below_size (by exact HB.out)) : w.heap.size ≤ gb357),HR0.out⟩));clear HB;have HB:=n0_;have HI357:=n1_;clear n0_ n1_;clear hb hbox hg) | ((with_reducible refine gate_callee (f:=37) rfl ?_);refine goesL_ (some 10) rfl rfl Try.func37 (by kernel_rfl) rfl #[.pointer (some ⟨gb357,0,none⟩)] rfl (by (try simp only [List.map_toArray,List.map_cons,List.map_nil]);rfl) ?_;(with_reducible refine (spec_l1Cur_file.calls k gb357 l0 0 0 t358 t361 t362 w _ ?side1 ?side2 A2.out).mono ?_);(case side1 => exact HI357.out);(case side2 => exact HB.out);rintro e w5 ⟨v359,rfl,ho0,hi,hb,hk⟩;refine ⟨_,rfl, ?_⟩;have n0_:=Aside0.mk (Kd.Q_lower ho0 (below_size (by exact HB.out)));have n1_:=Aside0.mk (hb);have n2_:=Aside0.mk (hi);clear HB;clear HI357;have HO360:=n0_;have HB:=n1_;have HI357:=n2_;clear n0_ n1_ n2_;(try clear hb);(try clear hk);(try clear hi);(try clear ho0)) | ((with_reducible refine gate_callee (f:=38) rfl ?_);refine goesL_ (some 13) rfl rfl Try.func38 (by kernel_rfl) rfl #[.pointer (some ⟨gb357,0,none⟩)] rfl (by (try simp only [List.map_toArray,List.map_cons,List.map_nil]);rfl) ?_;(with_reducible refine (spec_l1Cur_hour20.calls gb357 l0 t361 t362 t363 t364 t365 w _ ?side1 ?side2 A3.out).mono ?_);(case side1 => exact HI357.out);(case side2 => exact HB.out);rintro e w6 ⟨rfl,hi,hb,hk⟩;refine ⟨_,rfl, ?_⟩;have n0_:=Aside0.mk (Kd.Q_mono (Kd.Q_keep (IsS61.apartQ (show IsS61 w _ gb357 l0 t361 t362 from by exact HI357.out) (by exact HO360.out) (by decide)) hk (fun _ h => h.2)) (fun _ h => h.1));have n1_:=Aside0.mk (hb);have n2_:=Aside0.mk (hi);clear HO360;clear HB;clear HI357;have HO360:=n0_;have HB:=n1_;have HI357:=n2_;clear n0_ n1_ n2_;(try clear hb);(try clear hk);(try clear hi)))
 go_ret2
 exact ⟨_,by rfl,by exact HO360.out,by exact HB.out⟩

/-! ### cmp_isNaN_string: function 83 -/
def cmp_isNaN_string.f (a0 : ByteArray) : Option (Bool):=some (a0.toList != a0.toList)
set_option maxHeartbeats 8000000 in
set_option maxRecDepth 100000 in
theorem cmp_isNaN_string.calls (a0 : ByteArray) (r : Bool) (w : World) (h : cmp_isNaN_string.f a0 = some r) :
  Calls Try.prog 83 #[.string a0] w fun e w' => e = .returned (.bool r) ∧ Drawn0 w w':=by
 have H : (some (a0.toList != a0.toList)) = some r:=h
 clear h
 obtain rfl:=Option.some.inj H
 go_enter Try.func83,Try.ntmps83
 go_wp2
 go_ret
 exact ⟨by rfl,by repeat (exact Drawn0.refl _)⟩

/-! ### cmp_Less_string: function 71 -/
def cmp_Less_string.f (a0 : ByteArray) (a1 : ByteArray) : Option (Bool):=(cmp_isNaN_string.f a0).bind fun t366 => (if t366 = true then ((cmp_isNaN_string.f a1).bind fun t367 => (if t367 = true then (some (Op.bytesLess a0.toList a1.toList)) else (some true))) else (some (Op.bytesLess a0.toList a1.toList)))
set_option maxHeartbeats 8000000 in
set_option maxRecDepth 100000 in
theorem cmp_Less_string.calls (a0 : ByteArray) (a1 : ByteArray) (r : Bool) (w : World) (h : cmp_Less_string.f a0 a1 = some r) :
  Calls Try.prog 71 #[.string a0, .string a1] w fun e w' => e = .returned (.bool r) ∧ Drawn0 w w':=by
 have H : ((cmp_isNaN_string.f a0).bind fun t366 => (if t366 = true then ((cmp_isNaN_string.f a1).bind fun t367 => (if t367 = true then (some (Op.bytesLess a0.toList a1.toList)) else (some true))) else (some (Op.bytesLess a0.toList a1.toList)))) = some r:=h
 clear h
 replace H:=Option.bind_eq_some_iff.mp H
 obtain ⟨t366,A30,H⟩ := H
 replace H : (if t366 = true then ((cmp_isNaN_string.f a1).bind fun t367 => (if t367 = true then (some (Op.bytesLess a0.toList a1.toList)) else (some true))) else (some (Op.bytesLess a0.toList a1.toList))) = some r:=H
 have A3:=Aside0.mk A30
 clear A30
 by_cases c4 : t366 = true
 ·subst c4
  have H1 : ((cmp_isNaN_string.f a1).bind fun t367 => (if t367 = true then (some (Op.bytesLess a0.toList a1.toList)) else (some true))) = some r:=by rw [if_pos rfl] at H;exact H
  clear H
  have H:=H1
  clear H1
  replace H:=Option.bind_eq_some_iff.mp H
  obtain ⟨t367,A50,H⟩ := H
  replace H : (if t367 = true then (some (Op.bytesLess a0.toList a1.toList)) else (some true)) = some r:=H
  have A5:=Aside0.mk A50
  clear A50
  by_cases c6 : t367 = true
  ·subst c6
   have H1 : (some (Op.bytesLess a0.toList a1.toList)) = some r:=by rw [if_pos rfl] at H;exact H
   clear H
   have H:=H1
   clear H1
   obtain rfl:=Option.some.inj H
   go_enter Try.func71,Try.ntmps71
   go_wp2_with (first | ((with_reducible refine gate_callee (f:=83) rfl ?_);refine goesL_ (some 6) rfl rfl Try.func83 (by kernel_rfl) rfl #[.string a0] rfl (by (try simp only [List.map_toArray,List.map_cons,List.map_nil]);rfl) ?_;(with_reducible refine (cmp_isNaN_string.calls a0 true _ A3.out).mono ?_);rintro e w' ⟨rfl,⟨nd,rfl⟩⟩;refine ⟨_,rfl, ?_⟩) | (go_at_call 83;(with_reducible refine (cmp_isNaN_string.calls a1 true _ A5.out).mono ?_);rintro e w' ⟨rfl,⟨nd,rfl⟩⟩))
   go_ret
   exact ⟨by rfl,by repeat (first | exact Drawn0.refl _ | apply Drawn0.step)⟩
  ·replace c6:=Bool.eq_false_iff.mpr c6
   subst c6
   have H1 : (some true) = some r:=by rw [if_neg (show ¬ (false = true) by decide)] at H;exact H
   clear H
   have H:=H1
   clear H1
   obtain rfl:=Option.some.inj H
   go_enter Try.func71,Try.ntmps71
   go_wp2_with (first | ((with_reducible refine gate_callee (f:=83) rfl ?_);refine goesL_ (some 6) rfl rfl Try.func83 (by kernel_rfl) rfl #[.string a0] rfl (by (try simp only [List.map_toArray,List.map_cons,List.map_nil]);rfl) ?_;(with_reducible refine (cmp_isNaN_string.calls a0 true _ A3.out).mono ?_);rintro e w' ⟨rfl,⟨nd,rfl⟩⟩;refine ⟨_,rfl, ?_⟩) | (go_at_call 83;(with_reducible refine (cmp_isNaN_string.calls a1 false _ A5.out).mono ?_);rintro e w' ⟨rfl,⟨nd,rfl⟩⟩))
   go_ret
   exact ⟨by rfl,by repeat (first | exact Drawn0.refl _ | apply Drawn0.step)⟩
 ·replace c4:=Bool.eq_false_iff.mpr c4
  subst c4
  have H1 : (some (Op.bytesLess a0.toList a1.toList)) = some r:=by rw [if_neg (show ¬ (false = true) by decide)] at H;exact H
  clear H
  have H:=H1
  clear H1
  obtain rfl:=Option.some.inj H
  go_enter Try.func71,Try.ntmps71
  go_wp2_with (((with_reducible refine gate_callee (f:=83) rfl ?_);refine goesL_ (some 6) rfl rfl Try.func83 (by kernel_rfl) rfl #[.string a0] rfl (by (try simp only [List.map_toArray,List.map_cons,List.map_nil]);rfl) ?_;(with_reducible refine (cmp_isNaN_string.calls a0 false _ A3.out).mono ?_);rintro e w' ⟨rfl,⟨nd,rfl⟩⟩;refine ⟨_,rfl, ?_⟩))
  go_ret
  exact ⟨by rfl,by repeat (first | exact Drawn0.refl _ | apply Drawn0.step)⟩



















/-! ### slices_Sort_string: function 40 -/
/-- A text's bytes,and back. -/
def frB (s : ByteArray) : List UInt8:=s.data.toList
def toB (l : List UInt8) : ByteArray:=⟨l.toArray⟩
theorem to_fr (s : ByteArray) : toB (frB s) = s:=rfl
open Go.Shelf Go.Lib Go.Sort in
theorem enc_fr (xs : List ByteArray) : encs Value.string xs = encs encStr (xs.map frB):=by
 simp only [encs,List.map_map]
 rfl
open Go.Shelf Go.Lib Go.Sort in
theorem enc_to (zs : List (List UInt8)) : encs Value.string (zs.map toB) = encs encStr zs:=by
 simp only [encs,List.map_map]
 rfl
open Go.Shelf Go.Lib Go.Sort in
theorem SO_below {w0 w : World} {g n : Nat} {dk : Array (List UInt8)} {os : Array Obj} (hb0 : Below w0.heap.size w0 w) (hg : w0.heap.size ≤ g) : Below w0.heap.size w0 (grow (putRow encStr (Sort.ahead w n) g 0 dk) os) :=
 hb0.trans ⟨rfl,rfl,rfl,by show w.heap.size ≤ (_ ++ os).size;rw [Array.size_append,size_putRow];show w.heap.size ≤ w.heap.size + _;omega,fun k hk => by
  have hk' : k < w.heap.size:=Nat.lt_of_lt_of_le hk hb0.size
  rw [Sort.heap_grow_old _ os (by rw [size_putRow];exact hk')]
  show ((putRow encStr (Sort.ahead w n) g 0 dk).heap)[k]? = w.heap[k]?
  simp only [putRow,mapBlock,Array.getElem?_modify]
  rw [if_neg (by omega)]
  rfl⟩
open Go.Shelf Go.Lib Go.Sort in
theorem SO_kept {w : World} {g n : Nat} {dk : Array (List UInt8)} {os : Array Obj} {S : Nat → Prop} (hs : S g) : Kept w (grow (putRow encStr (Sort.ahead w n) g 0 dk) os) S :=
 ⟨by show w.heap.size ≤ (_ ++ os).size;rw [Array.size_append,size_putRow];show w.heap.size ≤ w.heap.size + _;omega,fun k hk hn => by
  rw [Sort.heap_grow_old _ os (by rw [size_putRow];exact hk)]
  show ((putRow encStr (Sort.ahead w n) g 0 dk).heap)[k]? = w.heap[k]?
  simp only [putRow,mapBlock,Array.getElem?_modify]
  rw [if_neg (fun h => hn (by subst h;exact hs))]
  rfl⟩
open Go.Shelf Go.Lib Go.Sort in
theorem SO_holds {w : World} {base g cap : Nat} {ok : Nat → Prop} {xs : List ByteArray} (hO : Kd.R Kd.string 9 w base ok (.slice (some ⟨g,0,none⟩) xs.length cap) xs) : Holds encStr w g 0 (xs.map frB).toArray:=fun j hj => by
 have hj' : j < xs.length:=by simpa using hj
 have:=Kd.R_cell ByteArray.empty hO (j : Int) (by omega) (by omega)
 rw [Int.toNat_natCast] at this
 rw [Nat.zero_add]
 refine ⟨this.1.trans ?_,this.2⟩
 unfold rdOf
 rw [Int.toNat_natCast,getElem!_pos (xs.map frB).toArray j hj,List.getElem_toArray,List.getD_eq_getElem?_getD,List.getElem?_eq_getElem hj',List.getElem_map]
 rfl
open Go.Shelf Go.Lib Go.Sort in
theorem SO_row {w : World} {base g cap m n : Nat} {ok : Nat → Prop} {cur : Array Value} {zs : List (List UInt8)} {os : Array Obj} (hbase : base ≤ g) (hg : w.heap[g]? = some (.cells cur 9 (0,0))) (hm : m = zs.length) (hn : m ≤ cap) (hcap : cap ≤ maxLen) (hsz : cur.size = cap * 1)
  (rest : List (List UInt8)) (hok : ok g) : Kd.R Kd.string 9 (grow (putRow encStr (Sort.ahead w n) g 0 (zs ++ rest).toArray) os) base ok (.slice (some ⟨g,0,none⟩) m cap) (zs.map toB):=by
 have hglt:=blk_lt hg
 refine Kd.R_of_own ?_ (fun k hk => by injection hk with hk;subst hk;exact hok)
 rw [enc_to]
 refine ⟨by simp [encs],Or.inr ⟨g,cap,putCells encStr 0 (zs ++ rest).toArray cur,by rw [hm,List.length_map],hbase, ?_,by rw [List.length_map,← hm];exact hn,hcap,by rw [← hsz];simp [putCells], ?_⟩⟩
 ·rw [Sort.heap_grow_old _ os (by rw [size_putRow];exact hglt)]
  simp only [putRow,mapBlock,Array.getElem?_modify,if_true]
  show (w.heap[g]?).map _ = _
  rw [hg]
  rfl
 ·apply List.ext_getElem
  ·simp [putCells,encs]
   omega
  ·intro j h1 h2
   have hj : j < zs.length:=by simpa [encs] using h2
   simp [putCells,encs]
   rw [if_pos (by omega),List.getElem?_append_left hj,List.getElem?_eq_getElem hj]
   rfl
def slices_Sort_string.f (l0 : List ByteArray) : Option (List ByteArray):=if l0.length < 4611686018427387904 then some (((l0.map frB).mergeSort fun x y => decide (x ≤ y)).map toB) else none
set_option maxHeartbeats 8000000 in
set_option maxRecDepth 100000 in
open Go.Shelf Go.Lib Go.Sort in
theorem slices_Sort_string.calls (P0_ : Nat → Prop) (u9000_ : Value) (l0 : List ByteArray) (r : List ByteArray) (w0 w : World) (hB : Below w0.heap.size w0 w) (ho0 : Kd.R Kd.string 9 w w0.heap.size P0_ u9000_ l0) (h : slices_Sort_string.f l0 = some r) :
  Calls Try.prog 40 #[u9000_] w fun e w' => e = .returned (.tuple #[]) ∧ Kd.R Kd.string 9 w' w0.heap.size (fun k_ => (P0_ k_ ∨ w.heap.size ≤ k_)) u9000_ r ∧ Below w0.heap.size w0 w' ∧ Kept w w' (fun k_ => P0_ k_):=by
 unfold slices_Sort_string.f at h
 by_cases hl : l0.length < 4611686018427387904
 ·rw [if_pos hl] at h
  obtain rfl:=Option.some.inj h
  obtain ⟨hlen,hnil | ⟨g,cap,cur,hv,hbase,hg,hn,hcap,hsz,htk⟩⟩ := Kd.own_of_R ho0
  ·obtain ⟨rfl,h0⟩ := hnil
   obtain rfl:=List.eq_nil_of_length_eq_zero h0
   refine (Try.slices_Sort_string_none none 0 w).mono fun e w' ⟨he,hw⟩ => ?_
   subst hw
   rw [show ((([] : List ByteArray).map frB).mergeSort fun x y => decide (x ≤ y)) = [] from by simp]
   exact ⟨he,Kd.R_mono ho0 (fun k hk => .inl hk),hB,Kept.refl _ _⟩
  ·subst hv
   have hglt:=blk_lt hg
   have hP : P0_ g:=ho0.1 g rfl
   have con:=Try.slices_Sort_string g 0 cap (l0.map frB) w (SO_holds ho0) hglt (by rw [List.length_map];exact hl)
   rw [List.length_map] at con
   have hs : l0.length = ((l0.map frB).mergeSort fun x y => decide (x ≤ y)).length:=by rw [List.length_mergeSort,List.length_map]
   generalize ((l0.map frB).mergeSort fun x y => decide (x ≤ y)) = zs at con hs ⊢
   refine con.mono fun e w' ⟨he,n,os,hw⟩ => ?_
   subst hw
   have R:=SO_row (n:=n) (os:=os) (ok:=fun k_ => (P0_ k_ ∨ w.heap.size ≤ k_)) hbase hg hs hn hcap hsz [] (.inl hP)
   rw [List.append_nil] at R
   exact ⟨he,R,SO_below hB hbase,SO_kept hP⟩
 ·rw [if_neg hl] at h
  cases h
theorem compact_le (zs : List (List UInt8)) : (Go.Lib.compact zs).length ≤ zs.length:=by
 unfold Go.Lib.compact Go.Lib.compactUpTo
 rw [List.length_map]
 exact Nat.le_trans (List.length_filter_le _ _) (by rw [List.length_range];exact Nat.le_refl _)
def slices_Compact_string.f (l0 : List ByteArray) : Option (List ByteArray):=if l0.length < 4611686018427387904 then some ((Go.Lib.compact (l0.map frB)).map toB) else none
set_option maxHeartbeats 8000000 in
set_option maxRecDepth 100000 in
open Go.Shelf Go.Lib Go.Sort in
theorem slices_Compact_string.made {A0 : Option Addr} {c0 : Nat} {l0 : List ByteArray} {ok : Nat → Prop} {r : List ByteArray} {w0 w : World} (hO : Kd.R Kd.string 9 w w0.heap.size ok (.slice A0 l0.length c0) l0) (hb0 : Below w0.heap.size w0 w) (h : slices_Compact_string.f l0 = some r) :
  Calls Try.prog 41 #[.slice A0 l0.length c0] w fun e w' => ∃ v1 : Value,e = .returned v1 ∧ Kd.R Kd.string 9 w' w0.heap.size (fun _ => True) v1 r ∧ Below w0.heap.size w0 w':=by
 unfold slices_Compact_string.f at h
 by_cases hl : l0.length < 4611686018427387904
 ·rw [if_pos hl] at h
  obtain rfl:=Option.some.inj h
  obtain ⟨hlen,hnil | ⟨g,cap,cur,hv,hbase,hg,hn,hcap,hsz,htk⟩⟩ := Kd.own_of_R hO
  ·obtain ⟨hv,h0⟩ := hnil
   obtain rfl:=List.eq_nil_of_length_eq_zero h0
   refine (Try.slices_Compact_string_empty A0 c0 w).mono fun e w' ⟨he,hw⟩ => ⟨_,he, ?_, ?_⟩
   ·subst hw
    exact Kd.R_mono hO (fun k hk => trivial)
   ·subst hw
    exact hb0
  ·injection hv with hv1 _ hv3
   subst hv1
   subst hv3
   have con:=Try.slices_Compact_string g 0 c0 (l0.map frB) w (SO_holds hO) (by rw [List.length_map];omega) (by rw [List.length_map];exact hn)
   rw [List.length_map] at con
   have hle : (Go.Lib.compact (l0.map frB)).length ≤ l0.length:=by have:=compact_le (l0.map frB);rwa [List.length_map] at this
   generalize Go.Lib.compact (l0.map frB) = zs at con hle ⊢
   refine con.mono fun e w' ⟨he,q,hw⟩ => ⟨_,he, ?_, ?_⟩
   ·subst hw
    have R:=SO_row (n:=q) (os:=#[]) (ok:=fun _ => True) hbase hg rfl (Nat.le_trans hle hn) hcap hsz (List.replicate (l0.length - zs.length) []) trivial
    rwa [Sort.grow_empty] at R
   ·subst hw
    have:=SO_below (n:=q) (dk:=(zs ++ List.replicate (l0.length - zs.length) []).toArray) (os:=#[]) hb0 hbase
    rwa [Sort.grow_empty] at this
 ·rw [if_neg hl] at h
  cases h

/-! ### slices_Compact_string: function 41 (told behind slices_Sort_string) -/

end Go.Proofs.Yteebkbikpamkmaa.PFnHolds
