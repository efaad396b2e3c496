-- Written by a program of this session, over the kit's print (wip/xprint.py)
import Derived.Test.YteebkbikpamkmaaPFnHoldsx0
import Derived.Test.YteebkbikpamkmaaPFnHoldsx2
import Derived.Test.YteebkbikpamkmaaPFnHoldsx9
import Derived.Test.YteebkbikpamkmaaPFnHoldsx10
import Derived.Test.YteebkbikpamkmaaPFnHoldsx11
namespace Go.Proofs.Yteebkbikpamkmaa.PFnHolds
open Go.RowKit Go.Proofs.YteebkbikpamkmaaW.PrintWords Go.Proofs.YteebkbikpamkmaaW.PrintLast Go.Proofs.YteebkbikpamkmaaW.PrintMore
attribute [local go_sem] max2_int min2_int max_two min_two max_three min_three max_four min_four   -- for this text's walks alone
set_option linter.unusedVariables false
set_option linter.unusedSimpArgs false

/-! ### spec_HeldContainers: function 14 -/
mutual
def spec_HeldContainers.j0 : Nat → List (S52) → Int → List ByteArray → Bool → Option (List ByteArray × Bool)
 | 0,_,_,_,_ => none
 | k + 1,x0,x1,x6,x19 => if x19 = true then (some (x6,false)) else ((spec_l20By.f k x0 x1).bind fun t389 => (spec_HeldContainers.l0 k x0 x6 t389 0))
def spec_HeldContainers.l0 : Nat → List (S52) → List ByteArray → Int → Int → Option (List ByteArray × Bool)
 | 0,_,_,_,_ => none
 | k + 1,x0,x6,x7,x8 => if x8 < x7 then (if 0 ≤ x8 then (if x8 < (x0.length : Int) then ((spec_l20At.f k x0 x7 ((rd_T52 x0 x8).f1)).bind fun t391 => (if t391 = 0 then (spec_HeldContainers.l0 k x0 x6 x7 (wrap64 (x8 + 1))) else (spec_HeldContainers.l1 k x0 x6 x7 x8 ((rd_T52 x0 x8).f1) 0))) else (none)) else (none)) else (some (x6,true))
def spec_HeldContainers.l1 : Nat → List (S52) → List ByteArray → Int → Int → ByteArray → Int → Option (List ByteArray × Bool)
 | 0,_,_,_,_,_,_ => none
 | k + 1,x0,x6,x7,x8,x9,x10 => if x10 < (x6.length : Int) then (if 0 ≤ x10 then (if (Op.bytesLess ((rdOf ByteArray.empty x6 x10).toList) x9.toList) = true then (spec_HeldContainers.l1 k x0 x6 x7 x8 x9 (wrap64 (x10 + 1))) else (if x10 = (x6.length : Int) then ((some (([] : List ByteArray) : List ByteArray)).bind fun y393 => (if x10 ≤ (x6.length : Int) then ((some (x6.take (x10 : Int).toNat : List ByteArray)).bind fun y396 => (if y393.length + y396.length < 8796093022208 then ((some (y393 ++ y396 : List ByteArray)).bind fun y400 => ((some (([x9] : List ByteArray) : List ByteArray)).bind fun y403 => (if y400.length + y403.length < 8796093022208 then ((some (y400 ++ y403 : List ByteArray)).bind fun y406 => ((some (x6.drop (x10 : Int).toNat : List ByteArray)).bind fun y409 => (if y406.length + y409.length < 8796093022208 then (spec_HeldContainers.l0 k x0 (y406 ++ y409) x7 (wrap64 (x8 + 1))) else (none)))) else (none)))) else (none))) else (none))) else (if (rdOf ByteArray.empty x6 x10).toList = x9.toList then (spec_HeldContainers.l0 k x0 x6 x7 (wrap64 (x8 + 1))) else ((some (([] : List ByteArray) : List ByteArray)).bind fun y417 => (if x10 ≤ (x6.length : Int) then ((some (x6.take (x10 : Int).toNat : List ByteArray)).bind fun y420 => (if y417.length + y420.length < 8796093022208 then ((some (y417 ++ y420 : List ByteArray)).bind fun y424 => ((some (([x9] : List ByteArray) : List ByteArray)).bind fun y427 => (if y424.length + y427.length < 8796093022208 then ((some (y424 ++ y427 : List ByteArray)).bind fun y430 => ((some (x6.drop (x10 : Int).toNat : List ByteArray)).bind fun y433 => (if y430.length + y433.length < 8796093022208 then (spec_HeldContainers.l0 k x0 (y430 ++ y433) x7 (wrap64 (x8 + 1))) else (none)))) else (none)))) else (none))) else (none)))))) else (none)) else (if x10 = (x6.length : Int) then ((some (([] : List ByteArray) : List ByteArray)).bind fun y440 => (if 0 ≤ x10 then (if x10 ≤ (x6.length : Int) then ((some (x6.take (x10 : Int).toNat : List ByteArray)).bind fun y443 => (if y440.length + y443.length < 8796093022208 then ((some (y440 ++ y443 : List ByteArray)).bind fun y447 => ((some (([x9] : List ByteArray) : List ByteArray)).bind fun y450 => (if y447.length + y450.length < 8796093022208 then ((some (y447 ++ y450 : List ByteArray)).bind fun y453 => ((some (x6.drop (x10 : Int).toNat : List ByteArray)).bind fun y456 => (if y453.length + y456.length < 8796093022208 then (spec_HeldContainers.l0 k x0 (y453 ++ y456) x7 (wrap64 (x8 + 1))) else (none)))) else (none)))) else (none))) else (none)) else (none))) else (if 0 ≤ x10 then (none) else (none)))
end
def spec_HeldContainers.f (k : Nat) (l0 : List (S52)) (a1 : Int) : Option (List ByteArray × Bool):=(some (([] : List ByteArray) : List ByteArray)).bind fun y384 => ((spec_l20Good.f k l0).bind fun t387 => (if t387 = true then ((spec_l20Hour.f a1).bind fun t388 => (spec_HeldContainers.j0 k l0 a1 y384 (!t388))) else (spec_HeldContainers.j0 k l0 a1 y384 true)))
theorem spec_HeldContainers.mono_l : ∀ k,(∀ y0 y1 y2 y3,LeO (spec_HeldContainers.j0 k y0 y1 y2 y3) (spec_HeldContainers.j0 (k + 1) y0 y1 y2 y3)) ∧ (∀ y0 y1 y2 y3,LeO (spec_HeldContainers.l0 k y0 y1 y2 y3) (spec_HeldContainers.l0 (k + 1) y0 y1 y2 y3)) ∧ (∀ y0 y1 y2 y3 y4 y5,LeO (spec_HeldContainers.l1 k y0 y1 y2 y3 y4 y5) (spec_HeldContainers.l1 (k + 1) y0 y1 y2 y3 y4 y5))
 | 0 => ⟨fun _ _ _ _ r h => by simp [spec_HeldContainers.j0] at h,fun _ _ _ _ r h => by simp [spec_HeldContainers.l0] at h,fun _ _ _ _ _ _ r h => by simp [spec_HeldContainers.l1] at h⟩
 | k + 1 => by
  obtain ⟨ih0,ih1,ih2⟩ := spec_HeldContainers.mono_l k
  refine ⟨?_, ?_, ?_⟩
  ·intro y0 y1 y2 y3
   unfold spec_HeldContainers.j0
   repeat' first
   | (with_reducible exact ih0 _ _ _ _)
   | (with_reducible exact ih1 _ _ _ _)
   | (with_reducible exact ih2 _ _ _ _ _ _)
   | (with_reducible exact spec_l20At.mono _ _ _ _)
   | (with_reducible exact spec_l20By.mono _ _ _)
   | (with_reducible exact spec_l20Good.mono _ _)
   | (with_reducible exact LeO.refl _)
   | (with_reducible exact LeO.none _)
   | (with_reducible refine LeO.ite ?_ ?_)
   | (with_reducible refine LeO.bind ?_ (fun _ => ?_))
   | exact ih0 _ _ _ _
   | exact ih1 _ _ _ _
   | exact ih2 _ _ _ _ _ _
   | exact spec_l20At.mono _ _ _ _
   | exact spec_l20By.mono _ _ _
   | exact spec_l20Good.mono _ _
   | exact LeO.none _
   | refine LeO.ite ?_ ?_
   | refine LeO.bind ?_ (fun _ => ?_)
  ·intro y0 y1 y2 y3
   unfold spec_HeldContainers.l0
   repeat' first
   | (with_reducible exact ih0 _ _ _ _)
   | (with_reducible exact ih1 _ _ _ _)
   | (with_reducible exact ih2 _ _ _ _ _ _)
   | (with_reducible exact spec_l20At.mono _ _ _ _)
   | (with_reducible exact spec_l20By.mono _ _ _)
   | (with_reducible exact spec_l20Good.mono _ _)
   | (with_reducible exact LeO.refl _)
   | (with_reducible exact LeO.none _)
   | (with_reducible refine LeO.ite ?_ ?_)
   | (with_reducible refine LeO.bind ?_ (fun _ => ?_))
   | exact ih0 _ _ _ _
   | exact ih1 _ _ _ _
   | exact ih2 _ _ _ _ _ _
   | exact spec_l20At.mono _ _ _ _
   | exact spec_l20By.mono _ _ _
   | exact spec_l20Good.mono _ _
   | exact LeO.none _
   | refine LeO.ite ?_ ?_
   | refine LeO.bind ?_ (fun _ => ?_)
  ·intro y0 y1 y2 y3 y4 y5
   unfold spec_HeldContainers.l1
   repeat' first
   | (with_reducible exact ih0 _ _ _ _)
   | (with_reducible exact ih1 _ _ _ _)
   | (with_reducible exact ih2 _ _ _ _ _ _)
   | (with_reducible exact spec_l20At.mono _ _ _ _)
   | (with_reducible exact spec_l20By.mono _ _ _)
   | (with_reducible exact spec_l20Good.mono _ _)
   | (with_reducible exact LeO.refl _)
   | (with_reducible exact LeO.none _)
   | (with_reducible refine LeO.ite ?_ ?_)
   | (with_reducible refine LeO.bind ?_ (fun _ => ?_))
   | exact ih0 _ _ _ _
   | exact ih1 _ _ _ _
   | exact ih2 _ _ _ _ _ _
   | exact spec_l20At.mono _ _ _ _
   | exact spec_l20By.mono _ _ _
   | exact spec_l20Good.mono _ _
   | exact LeO.none _
   | refine LeO.ite ?_ ?_
   | refine LeO.bind ?_ (fun _ => ?_)
theorem spec_HeldContainers.mono : ∀ a0 a1 k,LeO (spec_HeldContainers.f k a0 a1) (spec_HeldContainers.f (k + 1) a0 a1):=by
 intro a0 a1 k
 obtain ⟨ih0,ih1,ih2⟩ := spec_HeldContainers.mono_l k
 unfold spec_HeldContainers.f
 repeat' first
   | (with_reducible exact ih0 _ _ _ _)
   | (with_reducible exact ih1 _ _ _ _)
   | (with_reducible exact ih2 _ _ _ _ _ _)
   | (with_reducible exact spec_l20At.mono _ _ _ _)
   | (with_reducible exact spec_l20By.mono _ _ _)
   | (with_reducible exact spec_l20Good.mono _ _)
   | (with_reducible exact LeO.refl _)
   | (with_reducible exact LeO.none _)
   | (with_reducible refine LeO.ite ?_ ?_)
   | (with_reducible refine LeO.bind ?_ (fun _ => ?_))
   | exact ih0 _ _ _ _
   | exact ih1 _ _ _ _
   | exact ih2 _ _ _ _ _ _
   | exact spec_l20At.mono _ _ _ _
   | exact spec_l20By.mono _ _ _
   | exact spec_l20Good.mono _ _
   | exact LeO.none _
   | refine LeO.ite ?_ ?_
   | refine LeO.bind ?_ (fun _ => ?_)
def spec_HeldContainers.T14 : Bool × List (List Nat × List Nat):=(true,[([],[]),([],[]),([],[]),([1,2],[1,2]),([0,3],[0,3]),([],[]),([5],[5]),([4,6,4],[4,6]),([],[]),([],[]),([8,9],[8,9]),([7,10,7],[7,10]),([11,11,0,1,2,3,4,5,6,7,8,9,10,11],[1,8,11])])
def spec_HeldContainers.B14 : List Nat := [0,0,0,6,15,0,32,127,0,0,768,2047,4095]
theorem spec_HeldContainers.tab14 : rtab .any (opsOf Try.f14 14) = spec_HeldContainers.T14:=by kernel_rfl
theorem spec_HeldContainers.bits14 : waitsOk spec_HeldContainers.T14.2 spec_HeldContainers.B14 = true:=by kernel_rfl
set_option maxHeartbeats 8000000 in
set_option maxRecDepth 100000 in
theorem spec_HeldContainers.calls (k : Nat) (A0 : Option Addr) (c0 : Nat) (l0 : List (S52)) (a1 : Int) (r1 : List ByteArray) (r2 : Bool) (w : World) (hr0 : Kd.C k52 w A0 l0.length l0) (hc0 : l0.length ≤ c0) (h : spec_HeldContainers.f k l0 a1 = some (r1,r2)) :
  Calls Try.prog 14 #[.slice A0 l0.length c0, .int .i64 a1] w fun e w' => ∃ v0_ : Value,e = .returned (.tuple #[v0_, .bool r2]) ∧ Kd.R Kd.string 9 w' w.heap.size (fun _ => True) v0_ r1 ∧ Below w.heap.size w w':=by
 have HR0:=Aside0.mk hr0
 have HC0:=Aside0.mk hc0
 clear hr0 hc0
 have HB:=Aside0.mk (Below.refl w.heap.size w)
 have H : ((some (([] : List ByteArray) : List ByteArray)).bind fun y384 => ((spec_l20Good.f k l0).bind fun t387 => (if t387 = true then ((spec_l20Hour.f a1).bind fun t388 => (spec_HeldContainers.j0 k l0 a1 y384 (!t388))) else (spec_HeldContainers.j0 k l0 a1 y384 true)))) = some (r1,r2):=h
 clear h
 obtain ⟨y384,hy384⟩ : ∃ y_ : List ByteArray,y_ = (([] : List ByteArray)):=⟨_,rfl⟩
 replace H : ((spec_l20Good.f k l0).bind fun t387 => (if t387 = true then ((spec_l20Hour.f a1).bind fun t388 => (spec_HeldContainers.j0 k l0 a1 y384 (!t388))) else (spec_HeldContainers.j0 k l0 a1 y384 true))) = some (r1,r2):=by (have H2_:=(Option.bind_some _ _).symm.trans H;rw [hy384];with_reducible exact H2_)
 have Ny384:=Aside0.mk hy384
 clear hy384
 have HC3:=Aside0.mk H
 clear H
 go_enter Try.func14,Try.ntmps14
 go_upto_region 2 with (((with_reducible refine gate_dst (N:=11) rfl ?_);refine Kd.R_lit Kd.string _ 9 ?hg (N:=11) ?hd (xs:=([] : List ByteArray)) (inner := []) (ok:=fun _ => True) (okp:=fun _ => True) ?hr ?hp (fun _ hk => hk) trivial (Below.refl _ _) (Nat.le_refl _) (by simp) ?_;(case hd => rfl);(case hg => rfl);(case hr => (go_simp;done));(case hp => exact (Reps.none _ _));intro v385 w4 ho5 hb hg_ hnew_;clear hg_ hnew_;(rw [← Ny384.out] at ho5);have n0_:=Aside0.mk (Kd.R_lower ho5 (below_size (by exact HB.out)));have n1_:=Aside0.mk (below_step (by exact HB.out) hb);clear HB;have HO386:=n0_;have HB:=n1_;clear n0_ n1_;clear hb ho5))
 (skip)
 go_cut [19] (fun v19 wc => ∃ (kq : Nat) (x19_2 : Bool),v19 = .bool x19_2 ∧ Aside0 (spec_HeldContainers.j0 kq l0 a1 y384 x19_2 = some (r1,r2)) ∧ Aside0 (kq ≤ k) ∧ Aside0 (Kd.R Kd.string 9 wc w.heap.size (fun _ => True) v385 y384) ∧ Aside0 (Below w.heap.size w wc))
 case first =>
  have H:=HC3.out
  clear HC3
  replace H:=Option.bind_eq_some_iff.mp H
  obtain ⟨t387,A60,H⟩ := H
  replace H : (if t387 = true then ((spec_l20Hour.f a1).bind fun t388 => (spec_HeldContainers.j0 k l0 a1 y384 (!t388))) else (spec_HeldContainers.j0 k l0 a1 y384 true)) = some (r1,r2):=H
  have A6:=Aside0.mk A60
  clear A60
  by_cases c7 : t387 = true
  ·subst c7
   have H1 : ((spec_l20Hour.f a1).bind fun t388 => (spec_HeldContainers.j0 k l0 a1 y384 (!t388))) = some (r1,r2):=by rw [if_pos rfl] at H;exact H
   clear H
   have H:=H1
   clear H1
   replace H:=Option.bind_eq_some_iff.mp H
   obtain ⟨t388,A80,H⟩ := H
   replace H : (spec_HeldContainers.j0 k l0 a1 y384 (!t388)) = some (r1,r2):=H
   have A8:=Aside0.mk A80
   clear A80
   have H':=Aside0.mk H
   clear H
   go_wp2_with (first | ((with_reducible refine gate_callee (f:=32) rfl ?_);refine goesL_ (some 13) rfl rfl Try.func32 (by kernel_rfl) rfl #[.slice A0 l0.length c0] rfl (by (try simp only [List.map_toArray,List.map_cons,List.map_nil]);rfl) ?_;(with_reducible refine (spec_l20Good.calls k _ _ l0 true _ ?side1 ?side2 A6.out).mono ?_);(case side1 => repeat (exact (Kd.C_below HR0.out HB.out)));(case side2 => exact HC0.out);rintro e w9 ⟨rfl,hb⟩;refine ⟨_,rfl, ?_⟩;have n0_:=Aside0.mk (Kd.R_below (by exact HO386.out) hb);have n1_:=Aside0.mk (below_step (by exact HB.out) hb);clear HO386;clear HB;have HO386:=n0_;have HB:=n1_;clear n0_ n1_;(try clear hb)) | (go_at_call 34;(with_reducible refine (spec_l20Hour.calls a1 t388 _ A8.out).mono ?_);rintro e w' ⟨rfl,⟨nd,rfl⟩⟩))
   go_meet
   case rel => exact ⟨_,(!t388),(by rfl),H',⟨by omega⟩,⟨by (with_reducible repeat (apply Kd.R_drewN));exact HO386.out⟩,⟨by repeat ((with_reducible first | exact HB.out | apply pw_below_drewN))⟩⟩
  ·replace c7:=Bool.eq_false_iff.mpr c7
   subst c7
   have H1 : (spec_HeldContainers.j0 k l0 a1 y384 true) = some (r1,r2):=by rw [if_neg (show ¬ (false = true) by decide)] at H;exact H
   clear H
   have H:=H1
   clear H1
   have H':=Aside0.mk H
   clear H
   go_wp2_with (((with_reducible refine gate_callee (f:=32) rfl ?_);refine goesL_ (some 13) rfl rfl Try.func32 (by kernel_rfl) rfl #[.slice A0 l0.length c0] rfl (by (try simp only [List.map_toArray,List.map_cons,List.map_nil]);rfl) ?_;(with_reducible refine (spec_l20Good.calls k _ _ l0 false _ ?side1 ?side2 A6.out).mono ?_);(case side1 => repeat (exact (Kd.C_below HR0.out HB.out)));(case side2 => exact HC0.out);rintro e w10 ⟨rfl,hb⟩;refine ⟨_,rfl, ?_⟩;have n0_:=Aside0.mk (Kd.R_below (by exact HO386.out) hb);have n1_:=Aside0.mk (below_step (by exact HB.out) hb);clear HO386;clear HB;have HO386:=n0_;have HB:=n1_;clear n0_ n1_;(try clear hb)))
   go_meet
   case rel => exact ⟨_,(true),(by rfl),H',⟨by omega⟩,⟨by exact HO386.out⟩,⟨by exact HB.out⟩⟩
 case rest =>
  clear HC3
  try clear c1
  try clear p2
  try clear c3
  try clear c7
  obtain ⟨kq,x19_2,rfl,HA,HJ2,HO_6,HB⟩ := hcut
  cases kq with
  | zero => exact absurd HA.out (by simp [spec_HeldContainers.j0])
  | succ kj2 =>
   have H:=HA.out
   clear HA
   simp only [spec_HeldContainers.j0] at H
   by_cases c11 : x19_2 = true
   ·subst c11
    have H1 : (some (y384,false)) = some (r1,r2):=by rw [if_pos rfl] at H;exact H
    clear H
    have H:=H1
    clear H1
    simp only [Option.some.injEq,Prod.mk.injEq] at H
    obtain ⟨rfl,rfl⟩ := H
    go_wp2
    go_ret2
    exact ⟨_,by rfl,by exact HO_6.out,by exact HB.out⟩
   ·replace c11:=Bool.eq_false_iff.mpr c11
    subst c11
    have H1 : ((spec_l20By.f kj2 l0 a1).bind fun t389 => (spec_HeldContainers.l0 kj2 l0 y384 t389 0)) = some (r1,r2):=by rw [if_neg (show ¬ (false = true) by decide)] at H;exact H
    clear H
    have H:=H1
    clear H1
    replace H:=Option.bind_eq_some_iff.mp H
    obtain ⟨t389,A120,H⟩ := H
    replace H : (spec_HeldContainers.l0 kj2 l0 y384 t389 0) = some (r1,r2):=H
    have A12:=Aside0.mk A120
    clear A120
    have H':=Aside0.mk H
    clear H
    go_wp2_with (((with_reducible refine gate_callee (f:=42) rfl ?_);refine goesL_ (some 23) rfl rfl Try.func42 (by kernel_rfl) rfl #[.slice A0 l0.length c0, .int .i64 a1] rfl (by (try simp only [List.map_toArray,List.map_cons,List.map_nil]);rfl) ?_;(with_reducible refine (spec_l20By.calls kj2 _ _ l0 a1 t389 _ ?side1 ?side2 A12.out).mono ?_);(case side1 => repeat (exact (Kd.C_below HR0.out HB.out)));(case side2 => exact HC0.out);rintro e w' ⟨rfl,⟨nd,rfl⟩⟩;refine ⟨_,rfl, ?_⟩))
    (skip)
    go_loopg [6,8] kj2 (fun kq v6 v8 w' => ∃ (x6_2 : List ByteArray) (x8_2 : Int),v8 = .int .i64 x8_2 ∧ Aside0 (spec_HeldContainers.l0 kq l0 x6_2 t389 x8_2 = some (r1,r2)) ∧ Aside0 (kq ≤ kj2) ∧ Aside0 (Kd.R Kd.string 9 w' w.heap.size (fun _ => True) v6 x6_2) ∧ Aside0 (Below w.heap.size w w'))
    case atStart => exact ⟨(y384),(0),(by rfl),H',⟨Nat.le_refl _⟩,⟨by (with_reducible repeat (apply Kd.R_drewN));exact HO_6.out⟩,⟨by repeat ((with_reducible first | exact HB.out | apply pw_below_drewN))⟩⟩
    case round =>
     clear H'
     try clear c1
     try clear p2
     try clear c3
     try clear c4
     try clear c7
     try clear c11
     try clear p2
     obtain ⟨x6_2,x8_2,rfl,HA,HK2,HO_6,HB⟩ := hrel
     cases gk with
     | zero => exact absurd HA.out (by simp [spec_HeldContainers.l0])
     | succ k2 =>
      have H:=HA.out
      clear HA
      simp only [spec_HeldContainers.l0] at H
      by_cases c13 : x8_2 < t389
      ·rw [if_pos c13] at H
       have c13b0 : decide (x8_2 < t389) = true:=decide_eq_true c13
       clear c13
       by_cases c14 : 0 ≤ x8_2
       ·rw [if_pos c14] at H
        have c14b0 : decide (0 ≤ x8_2) = true:=decide_eq_true c14
        clear c14
        by_cases c15 : x8_2 < (l0.length : Int)
        ·rw [if_pos c15] at H
         have c15b0 : decide (x8_2 < (l0.length : Int)) = true:=decide_eq_true c15
         clear c15
         replace H:=Option.bind_eq_some_iff.mp H
         obtain ⟨t391,A160,H⟩ := H
         replace H : (if t391 = 0 then (spec_HeldContainers.l0 k2 l0 x6_2 t389 (wrap64 (x8_2 + 1))) else (spec_HeldContainers.l1 k2 l0 x6_2 t389 x8_2 ((rd_T52 l0 x8_2).f1) 0)) = some (r1,r2):=H
         have A16:=Aside0.mk A160
         clear A160
         by_cases c17 : t391 = 0
         ·rw [if_pos c17] at H
          have c17b0 : (t391 == 0) = true:=beq_iff_eq.mpr c17
          have c17b1 : (t391 != 0) = false:=bne_eq_false_iff_eq.mpr c17
          clear c17
          have H':=Aside0.mk H
          clear H
          have p390 : 0 ≤ (x8_2 : Int):=of_decide_eq_true (by (with_reducible assumption))
          have q390 : x8_2 < (l0.length : Int):=of_decide_eq_true (by (with_reducible assumption))
          obtain ⟨ad390,e390,hx390_0,hx390_1,hx390_2,hx390_3⟩ := at_T52 HR0.out x8_2 p390 q390
          cases e390
          replace hx390_0:=(HB.out.cell (World.block_lt_of_cell? w _ hx390_0)).trans hx390_0
          replace hx390_1:=(HB.out.cell (World.block_lt_of_cell? w _ hx390_1)).trans hx390_1
          replace hx390_2:=(HB.out.cell (World.block_lt_of_cell? w _ hx390_2)).trans hx390_2
          replace hx390_3:=(HB.out.cell (World.block_lt_of_cell? w _ hx390_3)).trans hx390_3
          replace p390:=eq_true p390
          replace q390:=eq_true q390
          go_wp2_with (((with_reducible refine gate_callee (f:=35) rfl ?_);refine goesL_ (some 37) rfl rfl Try.func35 (by kernel_rfl) rfl #[.slice (some ad390) l0.length c0, .int .i64 t389, .string ((rd_T52 l0 x8_2).f1)] rfl (by (try simp only [List.map_toArray,List.map_cons,List.map_nil]);rfl) ?_;(with_reducible refine (spec_l20At.calls k2 _ _ l0 t389 ((rd_T52 l0 x8_2).f1) t391 _ ?side1 ?side2 A16.out).mono ?_);(case side1 => repeat (exact (Kd.C_below HR0.out HB.out)));(case side2 => exact HC0.out);rintro e w' ⟨rfl,⟨nd,rfl⟩⟩;refine ⟨_,rfl, ?_⟩))
          go_roundg k2
          case measure => have:=HJ2.out;have:=HK2.out;omega
          case rel => exact ⟨(x6_2),(wrap64 (x8_2 + 1)),(by rfl),H',⟨by have:=HJ2.out;have:=HK2.out;omega⟩,⟨by (with_reducible repeat (apply Kd.R_drewN));exact HO_6.out⟩,⟨by repeat ((with_reducible first | exact HB.out | apply pw_below_drewN))⟩⟩
         ·rw [if_neg c17] at H
          have c17b0 : (t391 == 0) = false:=beq_eq_false_iff_ne.mpr c17
          have c17b1 : (t391 != 0) = true:=bne_iff_ne.mpr c17
          have H':=Aside0.mk H
          clear H
          have p390 : 0 ≤ (x8_2 : Int):=of_decide_eq_true (by (with_reducible assumption))
          have q390 : x8_2 < (l0.length : Int):=of_decide_eq_true (by (with_reducible assumption))
          obtain ⟨ad390,e390,hx390_0,hx390_1,hx390_2,hx390_3⟩ := at_T52 HR0.out x8_2 p390 q390
          cases e390
          replace hx390_0:=(HB.out.cell (World.block_lt_of_cell? w _ hx390_0)).trans hx390_0
          replace hx390_1:=(HB.out.cell (World.block_lt_of_cell? w _ hx390_1)).trans hx390_1
          replace hx390_2:=(HB.out.cell (World.block_lt_of_cell? w _ hx390_2)).trans hx390_2
          replace hx390_3:=(HB.out.cell (World.block_lt_of_cell? w _ hx390_3)).trans hx390_3
          replace p390:=eq_true p390
          replace q390:=eq_true q390
          go_wp2_with (((with_reducible refine gate_callee (f:=35) rfl ?_);refine goesL_ (some 37) rfl rfl Try.func35 (by kernel_rfl) rfl #[.slice (some ad390) l0.length c0, .int .i64 t389, .string ((rd_T52 l0 x8_2).f1)] rfl (by (try simp only [List.map_toArray,List.map_cons,List.map_nil]);rfl) ?_;(with_reducible refine (spec_l20At.calls k2 _ _ l0 t389 ((rd_T52 l0 x8_2).f1) t391 _ ?side1 ?side2 A16.out).mono ?_);(case side1 => repeat (exact (Kd.C_below HR0.out HB.out)));(case side2 => exact HC0.out);rintro e w' ⟨rfl,⟨nd,rfl⟩⟩;refine ⟨_,rfl, ?_⟩))
          (skip)
          go_loopg [10] k2 (fun kq v10 w' => ∃ (x10_3 : Int),v10 = .int .i64 x10_3 ∧ Aside0 (spec_HeldContainers.l1 kq l0 x6_2 t389 x8_2 ((rd_T52 l0 x8_2).f1) x10_3 = some (r1,r2)) ∧ Aside0 (kq ≤ k2) ∧ Aside0 (Kd.R Kd.string 9 w' w.heap.size (fun _ => True) u6 x6_2) ∧ Aside0 (Below w.heap.size w w'))
          case atStart => exact ⟨(0),(by rfl),H',⟨Nat.le_refl _⟩,⟨by (with_reducible repeat (apply Kd.R_drewN));exact HO_6.out⟩,⟨by repeat ((with_reducible first | exact HB.out | apply pw_below_drewN))⟩⟩
          case round =>
           clear H'
           try clear c1
           try clear p2
           try clear c3
           try clear p3
           try clear q3
           try clear hx3
           try clear c4
           try clear p6
           try clear c7
           try clear c11
           try clear c13
           try clear c13b0
           try clear c14
           try clear c14b0
           try clear c15
           try clear c15b0
           try clear c17
           try clear c17b0
           try clear c17b1
           try clear hx390_0
           try clear hx390_1
           try clear hx390_2
           try clear hx390_3
           try clear p2
           try clear p390
           try clear q390
           obtain ⟨x10_3,rfl,HA,HK3,HO_6,HB⟩ := hrel
           cases gk with
           | zero => exact absurd HA.out (by simp [spec_HeldContainers.l1])
           | succ k3 =>
            have H:=HA.out
            clear HA
            simp only [spec_HeldContainers.l1] at H
            by_cases c18 : x10_3 < (x6_2.length : Int)
            ·rw [if_pos c18] at H
             have c18b0 : decide (x10_3 < (x6_2.length : Int)) = true:=decide_eq_true c18
             clear c18
             by_cases c19 : 0 ≤ x10_3
             ·rw [if_pos c19] at H
              have c19b0 : decide (0 ≤ x10_3) = true:=decide_eq_true c19
              clear c19
              by_cases c20 : (Op.bytesLess ((rdOf ByteArray.empty x6_2 x10_3).toList) ((rd_T52 l0 x8_2).f1).toList) = true
              ·rw [if_pos c20] at H
               have c20b0 : (Op.bytesLess ((rdOf ByteArray.empty x6_2 x10_3).toList) ((rd_T52 l0 x8_2).f1).toList) = true:=c20
               clear c20
               have H':=Aside0.mk H
               clear H
               obtain ⟨Ao21,co21,eo21⟩ := Kd.R_slice HO_6.out
               subst eo21
               have p392 : 0 ≤ (x10_3 : Int):=of_decide_eq_true (by (with_reducible assumption))
               have q392 : x10_3 < (x6_2.length : Int):=of_decide_eq_true (by (with_reducible assumption))
               obtain ⟨ad392,e392,hx392_0⟩ := Kd.at_string (Kd.R_reads' HO_6.out).2.2 x10_3 p392 q392
               cases e392
               replace p392:=eq_true p392
               replace q392:=eq_true q392
               go_wp2
               go_roundg k3
               case measure => have:=HJ2.out;have:=HK2.out;have:=HK3.out;omega
               case rel => exact ⟨(wrap64 (x10_3 + 1)),(by rfl),H',⟨by have:=HJ2.out;have:=HK2.out;have:=HK3.out;omega⟩,⟨by exact HO_6.out⟩,⟨by exact HB.out⟩⟩
              ·rw [if_neg c20] at H
               have c20b0 : (Op.bytesLess ((rdOf ByteArray.empty x6_2 x10_3).toList) ((rd_T52 l0 x8_2).f1).toList) = false:=by simpa using c20
               clear c20
               by_cases c22 : x10_3 = (x6_2.length : Int)
               ·rw [if_pos c22] at H
                have c22b0 : (x10_3 == (x6_2.length : Int)) = true:=beq_iff_eq.mpr c22
                have c22b1 : (x10_3 != (x6_2.length : Int)) = false:=bne_eq_false_iff_eq.mpr c22
                clear c22
                obtain ⟨y393,hy393⟩ : ∃ y_ : List ByteArray,y_ = (([] : List ByteArray)):=⟨_,rfl⟩
                replace H : (if x10_3 ≤ (x6_2.length : Int) then ((some (x6_2.take (x10_3 : Int).toNat : List ByteArray)).bind fun y396 => (if y393.length + y396.length < 8796093022208 then ((some (y393 ++ y396 : List ByteArray)).bind fun y400 => ((some (([((rd_T52 l0 x8_2).f1)] : List ByteArray) : List ByteArray)).bind fun y403 => (if y400.length + y403.length < 8796093022208 then ((some (y400 ++ y403 : List ByteArray)).bind fun y406 => ((some (x6_2.drop (x10_3 : Int).toNat : List ByteArray)).bind fun y409 => (if y406.length + y409.length < 8796093022208 then (spec_HeldContainers.l0 k3 l0 (y406 ++ y409) t389 (wrap64 (x8_2 + 1))) else (none)))) else (none)))) else (none))) else (none)) = some (r1,r2):=by (have H2_:=(Option.bind_some _ _).symm.trans H;rw [hy393];with_reducible exact H2_)
                have Ny393:=Aside0.mk hy393
                clear hy393
                have c23b0:=eq_true (of_decide_eq_true (by (with_reducible assumption)) : 0 ≤ x10_3)
                by_cases c24 : x10_3 ≤ (x6_2.length : Int)
                ·rw [if_pos c24] at H
                 have c24b0:=eq_true c24
                 have c24b1 : decide (x10_3 ≤ (x6_2.length : Int)) = true:=decide_eq_true c24
                 clear c24
                 obtain ⟨y396,hy396⟩ : ∃ y_ : List ByteArray,y_ = (x6_2.take (x10_3 : Int).toNat):=⟨_,rfl⟩
                 replace H : (if y393.length + y396.length < 8796093022208 then ((some (y393 ++ y396 : List ByteArray)).bind fun y400 => ((some (([((rd_T52 l0 x8_2).f1)] : List ByteArray) : List ByteArray)).bind fun y403 => (if y400.length + y403.length < 8796093022208 then ((some (y400 ++ y403 : List ByteArray)).bind fun y406 => ((some (x6_2.drop (x10_3 : Int).toNat : List ByteArray)).bind fun y409 => (if y406.length + y409.length < 8796093022208 then (spec_HeldContainers.l0 k3 l0 (y406 ++ y409) t389 (wrap64 (x8_2 + 1))) else (none)))) else (none)))) else (none)) = some (r1,r2):=by (have H2_:=(Option.bind_some _ _).symm.trans H;rw [hy396];with_reducible exact H2_)
                 have Ny396:=Aside0.mk hy396
                 clear hy396
                 by_cases c25 : y393.length + y396.length < 8796093022208
                 ·rw [if_pos c25] at H
                  have LMc25:=Aside0.mk c25
                  clear c25
                  obtain ⟨y400,hy400⟩ : ∃ y_ : List ByteArray,y_ = (y393 ++ y396):=⟨_,rfl⟩
                  replace H : ((some (([((rd_T52 l0 x8_2).f1)] : List ByteArray) : List ByteArray)).bind fun y403 => (if y400.length + y403.length < 8796093022208 then ((some (y400 ++ y403 : List ByteArray)).bind fun y406 => ((some (x6_2.drop (x10_3 : Int).toNat : List ByteArray)).bind fun y409 => (if y406.length + y409.length < 8796093022208 then (spec_HeldContainers.l0 k3 l0 (y406 ++ y409) t389 (wrap64 (x8_2 + 1))) else (none)))) else (none))) = some (r1,r2):=by (have H2_:=(Option.bind_some _ _).symm.trans H;rw [hy400];with_reducible exact H2_)
                  have Ny400:=Aside0.mk hy400
                  clear hy400
                  obtain ⟨y403,hy403⟩ : ∃ y_ : List ByteArray,y_ = (([((rd_T52 l0 x8_2).f1)] : List ByteArray)):=⟨_,rfl⟩
                  replace H : (if y400.length + y403.length < 8796093022208 then ((some (y400 ++ y403 : List ByteArray)).bind fun y406 => ((some (x6_2.drop (x10_3 : Int).toNat : List ByteArray)).bind fun y409 => (if y406.length + y409.length < 8796093022208 then (spec_HeldContainers.l0 k3 l0 (y406 ++ y409) t389 (wrap64 (x8_2 + 1))) else (none)))) else (none)) = some (r1,r2):=by (have H2_:=(Option.bind_some _ _).symm.trans H;rw [hy403];with_reducible exact H2_)
                  have Ny403:=Aside0.mk hy403
                  clear hy403
                  by_cases c26 : y400.length + y403.length < 8796093022208
                  ·rw [if_pos c26] at H
                   have LMc26:=Aside0.mk c26
                   clear c26
                   obtain ⟨y406,hy406⟩ : ∃ y_ : List ByteArray,y_ = (y400 ++ y403):=⟨_,rfl⟩
                   replace H : ((some (x6_2.drop (x10_3 : Int).toNat : List ByteArray)).bind fun y409 => (if y406.length + y409.length < 8796093022208 then (spec_HeldContainers.l0 k3 l0 (y406 ++ y409) t389 (wrap64 (x8_2 + 1))) else (none))) = some (r1,r2):=by (have H2_:=(Option.bind_some _ _).symm.trans H;rw [hy406];with_reducible exact H2_)
                   have Ny406:=Aside0.mk hy406
                   clear hy406
                   have c27b0:=eq_true (of_decide_eq_true (by (with_reducible assumption)) : 0 ≤ x10_3)
                   have c28b0:=eq_true (of_decide_eq_true (by (with_reducible assumption)) : x10_3 ≤ (x6_2.length : Int))
                   obtain ⟨y409,hy409⟩ : ∃ y_ : List ByteArray,y_ = (x6_2.drop (x10_3 : Int).toNat):=⟨_,rfl⟩
                   replace H : (if y406.length + y409.length < 8796093022208 then (spec_HeldContainers.l0 k3 l0 (y406 ++ y409) t389 (wrap64 (x8_2 + 1))) else (none)) = some (r1,r2):=by (have H2_:=(Option.bind_some _ _).symm.trans H;rw [hy409];with_reducible exact H2_)
                   have Ny409:=Aside0.mk hy409
                   clear hy409
                   by_cases c29 : y406.length + y409.length < 8796093022208
                   ·rw [if_pos c29] at H
                    have LMc29:=Aside0.mk c29
                    clear c29
                    obtain ⟨y413,hy413⟩ : ∃ y_ : List ByteArray,y_ = (y406 ++ y409):=⟨_,rfl⟩
                    replace H : (spec_HeldContainers.l0 k3 l0 y413 t389 (wrap64 (x8_2 + 1))) = some (r1,r2):=by (rw [hy413];with_reducible exact H)
                    have Ny413:=Aside0.mk hy413
                    clear hy413
                    have H':=Aside0.mk H
                    clear H
                    obtain ⟨Ao30,co30,eo30⟩ := Kd.R_slice HO_6.out
                    subst eo30
                    have p392 : 0 ≤ (x10_3 : Int):=of_decide_eq_true (by (with_reducible assumption))
                    have q392 : x10_3 < (x6_2.length : Int):=of_decide_eq_true (by (with_reducible assumption))
                    obtain ⟨ad392,e392,hx392_0⟩ := Kd.at_string (Kd.R_reads' HO_6.out).2.2 x10_3 p392 q392
                    cases e392
                    replace p392:=eq_true p392
                    replace q392:=eq_true q392
                    try go_wp2
                    have n0_:=Aside0.mk (Kd.R_drew HO_6.out)
                    have n1_:=Aside0.mk (below_drew1 HB.out)
                    clear HO_6
                    clear HB
                    have HO_6:=n0_
                    have HB:=n1_
                    clear n0_ n1_
                    have q32 : (x10_3 : Int) ≤ ((x6_2.length : Int) : Int):=of_decide_eq_true (by (with_reducible assumption))
                    obtain ⟨i032,hi032,_,hsz32,_⟩ := info_parts info9
                    have hroom32 : x6_2.length ≤ co30:=(Kd.R_reads' HO_6.out).2.1
                    have hC32 : Kd.C Kd.string _ (some ad392) x6_2.length x6_2:=(Kd.R_reads' HO_6.out).2.2
                    have hcut32:=cut_to (P:=Try.prog) 35 9 .i64 Try.underlying35 hi032 (some ad392) x6_2.length co30 x10_3 (of_decide_eq_true (by (with_reducible assumption))) q32 hroom32
                    have hr32:=Kd.C_take (m:=(x10_3 : Int).toNat) hC32 (by omega)
                    have hy32 : y396.length = (x10_3 : Int).toNat:=(by rw [Ny396.out,List.length_take];omega)
                    rw [← Ny396.out] at hr32
                    rw [← hy32] at hcut32
                    have HR399:=Aside0.mk hr32
                    have HC399:=Aside0.mk (show y396.length ≤ co30 from by omega)
                    clear hr32 hC32 hroom32 hi032 hsz32
                    have KY32:=Aside0.mk hy32
                    clear hy32
                    have KL32:=Aside0.mk (show (x10_3 : Int).toNat ≤ x6_2.length from by omega)
                    replace q32:=eq_true q32
                    have q33 : (x10_3 : Int) ≤ ((x6_2.length : Int) : Int):=of_decide_eq_true (by (with_reducible assumption))
                    obtain ⟨i033,hi033,_,hsz33,_⟩ := info_parts info9
                    have hroom33 : x6_2.length ≤ co30:=(Kd.R_reads' HO_6.out).2.1
                    have hC33 : Kd.C Kd.string _ (some ad392) x6_2.length x6_2:=(Kd.R_reads' HO_6.out).2.2
                    have q033 : (0 : Int) ≤ (x10_3 : Int):=of_decide_eq_true (by (with_reducible assumption))
                    have hcut33:=cut_from (P:=Try.prog) 35 9 .i64 Try.underlying35 hi033 1 hsz33 (some ad392) x6_2.length co30 x10_3 q033 q33
                    have hr33:=Kd.C_drop (m:=(x10_3 : Int).toNat) (c:=co30) hC33 (by omega) hroom33
                    obtain ⟨A33,hA33⟩ : ∃ A1,A1 = (if co30 = (x10_3 : Int).toNat then (some ad392) else ((some ad392) : Option Addr).map (·.add ((x10_3 : Int).toNat * 1))):=⟨_,rfl⟩
                    obtain ⟨c33,hc33⟩ : ∃ c1,c1 = co30 - (x10_3 : Int).toNat:=⟨_,rfl⟩
                    have hy33 : y409.length = x6_2.length - (x10_3 : Int).toNat:=(by rw [Ny409.out,List.length_drop] <;> omega)
                    rw [show (x6_2).drop (x10_3 : Int).toNat = y409 from Ny409.out.symm] at hr33
                    replace hr33 : Kd.C Kd.string _ A33 y409.length y409:=(by rw [hA33];exact hr33)
                    rw [← hy33,← hA33,← hc33] at hcut33
                    have HR412:=Aside0.mk hr33
                    have HC412:=Aside0.mk (show y409.length ≤ c33 from by rw [hy33,hc33];exact Nat.sub_le_sub_right hroom33 _)
                    clear hr33 hC33 hroom33 hi033 hsz33 hc33
                    have KY33:=Aside0.mk hy33
                    have KA33:=Aside0.mk hA33
                    clear hy33 hA33
                    have KL33:=Aside0.mk (show (x10_3 : Int).toNat ≤ x6_2.length from by omega)
                    replace q33:=eq_true q33
                    refine start_ (n:=13) (S:=fun w' => True) (ds := []) #[false,false,false,false,false,false,false,false,false,false,false,false,false] (by kernel_rfl) rfl rfl trivial (fun hHeld => ?_);refine with_tabW spec_HeldContainers.tab14 spec_HeldContainers.bits14 (fun HT_ HW_ => ?_)
                    generalize wr.drew = w31 at HO_6 HB HR399 HR412 hHeld ⊢
                    refine pure_ (i:=1) (N:=some 66) (v:=?_) (a':=?_) #[false,true,false,false,false,false,false,false,false,false,false,false,false] rfl rfl (any_of HT_.out (by kernel_rfl)) (fun _ _ _ h => h) (Or.inl ⟨by rfl, ?_⟩) ?_ ?_
                    rotate_left
                    ·intro w'
                     go_simp
                     with_reducible rfl
                    rotate_left
                    ·simp only [Act.put,sA_,s0_,s1_,i64_w,i32_w]
                     rfl
                    refine pure_ (i:=2) (N:=some 67) (v:=?_) (a':=?_) #[false,true,true,false,false,false,false,false,false,false,false,false,false] rfl rfl (any_of HT_.out (by kernel_rfl)) (fun _ _ _ h => h) (Or.inl ⟨by rfl, ?_⟩) ?_ ?_
                    rotate_left
                    ·intro w'
                     go_simp
                     with_reducible rfl
                    rotate_left
                    ·simp only [Act.put,sA_,s0_,s1_,i64_w,i32_w]
                     rfl
                    refine pure_ (i:=3) (N:=some 68) (v:=?_) (a':=?_) #[false,true,true,true,false,false,false,false,false,false,false,false,false] rfl rfl (any_of HT_.out (by kernel_rfl)) (fun _ _ _ h => h) (Or.inl ⟨by rfl, ?_⟩) ?_ ?_
                    rotate_left
                    ·intro w'
                     go_simp
                     with_reducible rfl
                    rotate_left
                    ·simp only [Act.put,sA_,s0_,s1_,i64_w,i32_w]
                     rfl
                    refine pure_ (i:=5) (N:=some 70) (v:=?_) (a':=?_) #[false,true,true,true,false,true,false,false,false,false,false,false,false] rfl rfl (any_of HT_.out (by kernel_rfl)) (fun _ _ _ h => h) (Or.inl ⟨by rfl, ?_⟩) ?_ ?_
                    rotate_left
                    ·intro w'
                     go_simp
                     with_reducible rfl
                    rotate_left
                    ·simp only [Act.put,sA_,s0_,s1_,i64_w,i32_w]
                     rfl
                    refine pure_ (i:=8) (N:=some 73) (v:=?_) (a':=?_) #[false,true,true,true,false,true,false,false,true,false,false,false,false] rfl rfl (any_of HT_.out (by kernel_rfl)) (fun _ _ _ h => h) (Or.inl ⟨by rfl, ?_⟩) ?_ ?_
                    rotate_left
                    ·intro w'
                     go_simp
                     with_reducible rfl
                    rotate_left
                    ·simp only [Act.put,sA_,s0_,s1_,i64_w,i32_w]
                     rfl
                    refine pure_ (i:=9) (N:=some 74) (v:=?_) (a':=?_) #[false,true,true,true,false,true,false,false,true,true,false,false,false] rfl rfl (any_of HT_.out (by kernel_rfl)) (fun _ _ _ h => h) (Or.inl ⟨by rfl, ?_⟩) ?_ ?_
                    rotate_left
                    ·intro w'
                     go_simp
                     with_reducible rfl
                    rotate_left
                    ·simp only [Act.put,sA_,s0_,s1_,i64_w,i32_w]
                     rfl
                    refine pure_ (i:=10) (N:=some 75) (v:=?_) (a':=?_) #[false,true,true,true,false,true,false,false,true,true,true,false,false] rfl rfl (any_of HT_.out (by kernel_rfl)) (fun _ _ _ h => h) (Or.inl ⟨by rfl, ?_⟩) ?_ ?_
                    rotate_left
                    ·intro w'
                     go_simp
                     with_reducible rfl
                    rotate_left
                    ·simp only [Act.put,sA_,s0_,s1_,i64_w,i32_w]
                     rfl
                    refine join_ (σ:=Value × Value × Value) 3 #[true,true,true,true,true,true,true,false,true,true,true,false,false] (fun s_ => [(65,s_.1),(69,s_.2.1),(71,s_.2.2)]) (fun s_ w' => (Kd.R Kd.string 9 w' w.heap.size (fun k_ => some k_ ≠ (s_.2.2 : Value).ownBlock ∧ some k_ ≠ (.slice (some ad392) x6_2.length co30 : Value).ownBlock) s_.2.1 y400) ∧ (Kd.R Kd.string 9 w' w.heap.size (fun k_ => some k_ ≠ (s_.2.1 : Value).ownBlock ∧ some k_ ≠ (.slice (some ad392) x6_2.length co30 : Value).ownBlock) s_.2.2 y403) ∧ (Kd.R Kd.string 9 w' w.heap.size (fun k_ => some k_ ≠ (s_.2.1 : Value).ownBlock ∧ some k_ ≠ (s_.2.2 : Value).ownBlock) (.slice (some ad392) x6_2.length co30) x6_2) ∧ (Kd.C Kd.string w' A33 y409.length y409) ∧ (Below w.heap.size w w')) ?_ ?_
                    rotate_left
                    ·intro hCont
                     refine two_ (i:=0) (j:=6) (Ni:=some 65) (Nj:=some 71) #[true,true,true,true,false,true,false,false,true,true,true,false,false] #[false,true,true,true,false,true,true,false,true,true,true,false,false] rfl rfl rfl rfl (two_of HT_.out (by kernel_rfl)) (by decide) (by decide) (fun K hK => ?_) (fun K hK => ?_)
                     ·skip
                      refine Kd.R_lit_step Kd.string _ 9 ?hg (N:=65) ?hd (xs:=([] : List ByteArray)) (inner := []) (ok:=fun _ => True) (okp:=fun _ => True) ?hr ?hp (fun _ hk => hk) trivial (Below.refl _ _) (Nat.le_refl _) (by simp) ?_;(case hd => rfl);(case hg => rfl);(case hr => (go_simp;done));(case hp => exact (Reps.none _ _))
                      intro v394 w34 ho35 hb hg_ hnew_
                      clear hg_ hnew_
                      (rw [← Ny393.out] at ho35)
                      have n0_:=Aside0.mk (Kd.R_elder' (by exact HO_6.out) (Kd.R_base ho35) hb)
                      have n1_:=Aside0.mk (Kd.R_lower (Kd.R_new' ho35 (Kd.R_lt (by exact HO_6.out))) (below_size (by exact HB.out)))
                      have n2_:=Aside0.mk (Kd.C_below (by exact HR399.out) hb)
                      have n3_:=Aside0.mk (Kd.C_below (by exact HR412.out) hb)
                      have n4_:=Aside0.mk (below_step (by exact HB.out) hb)
                      clear HO_6
                      clear HR399
                      clear HR412
                      clear HB
                      have HO_6:=n0_
                      have HO395:=n1_
                      have HR399:=n2_
                      have HR412:=n3_
                      have HB:=n4_
                      clear n0_ n1_ n2_ n3_ n4_
                      clear hb ho35
                      refine hK.out _ _ trivial (fun hHeld => ?_)
                      clear hK K
                      refine norm_ (a':=?_) ?_ ?_
                      rotate_left
                      ·show Act.put _ (some 65) _ = _
                       simp only [Act.put,sA_,s0_,s1_,i64_w,i32_w]
                       rfl
                      refine two_ (i:=4) (j:=6) (Ni:=some 69) (Nj:=some 71) #[true,true,true,true,true,true,false,false,true,true,true,false,false] #[true,true,true,true,false,true,true,false,true,true,true,false,false] rfl rfl rfl rfl (two_of HT_.out (by kernel_rfl)) (by decide) (by decide) (fun K hK => ?_) (fun K hK => ?_)
                      ·skip
                       refine Kd.R_append_rows_step Kd.string (w0:=w) w.heap.size (by rfl) (.tmp 65) (.tmp 68) 35 9 (.string ⟨#[]⟩) 16 rfl Try.underlying35 info9 rfl (by decide) (by omega) v394 y393 y396 _ _ _ (fun k_ => some k_ ≠ (.slice (some ad392) x6_2.length co30 : Value).ownBlock) (fun _ => False) rfl rfl ?aO ?aR (fun _ _ h => h) (fun _ h => h.elim) ?aF ?aB ?aS ?aL ?_
                       (case aR => repeat (exact (by repeat (exact HR399.out))))
                       (case aB => exact (by exact HB.out))
                       (case aF => exact (fun k_ hk => Kd.fresh' (Kd.R_lt (by exact HO_6.out)) k_ hk))
                       (case aO => exact (by exact Kd.R_mono HO395.out (fun _ hk => hk.2)))
                       (case aS => exact (below_size (by exact HB.out)))
                       (case aL => have:=LMc25.out;omega)
                       intro v401 w36 ho hb hg hat
                       rw [← Ny400.out] at ho
                       have n0_:=Aside0.mk (Kd.R_after (ok:=(fun _ => True)) (by exact HO_6.out) hg hat)
                       have n1_:=Aside0.mk (hb)
                       have n2_:=Aside0.mk ((show Kd.C Kd.string w36 (some ad392) y396.length y396 from by rw [Ny396.out];exact Kd.C_take (m:=(x10_3 : Int).toNat) ((Kd.R_reads' (Kd.R_after (ok:=(fun _ => True)) (by exact HO_6.out) hg hat)).2.2) KL32.out))
                       have n3_:=Aside0.mk ((show Kd.C Kd.string w36 A33 y409.length y409 from by rw [Ny409.out,KA33.out];exact Kd.C_drop (m:=(x10_3 : Int).toNat) (c:=co30) ((Kd.R_reads' (Kd.R_after (ok:=(fun _ => True)) (by exact HO_6.out) hg hat)).2.2) KL33.out ((Kd.R_reads' (Kd.R_after (ok:=(fun _ => True)) (by exact HO_6.out) hg hat)).2.1)))
                       have n4_:=Aside0.mk (ho)
                       clear HO_6
                       clear HB
                       clear HR399
                       clear HR412
                       clear HO395
                       have HO_6:=n0_
                       have HB:=n1_
                       have HR399:=n2_
                       have HR412:=n3_
                       have HO402:=n4_
                       clear n0_ n1_ n2_ n3_ n4_
                       clear ho hb hg hat
                       refine hK.out _ _ trivial (fun hHeld => ?_)
                       clear hK K
                       refine norm_ (a':=?_) ?_ ?_
                       rotate_left
                       ·show Act.put _ (some 69) _ = _
                        simp only [Act.put,sA_,s0_,s1_,i64_w,i32_w]
                        rfl
                       refine one_ (i:=6) (N:=some 71) #[true,true,true,true,true,true,true,false,true,true,true,false,false] rfl rfl (one_of HT_.out (by kernel_rfl)) (by decide) (fun K hK => ?_)
                       refine Kd.R_lit_step Kd.string _ 9 ?hg (N:=71) ?hd (xs:=([((rd_T52 l0 x8_2).f1)] : List ByteArray)) (inner := [.string ((rd_T52 l0 x8_2).f1)]) (ok:=fun _ => True) (okp:=fun _ => True) ?hr ?hp (fun _ hk => hk) trivial (Below.refl _ _) (Nat.le_refl _) (by simp) ?_;(case hd => rfl);(case hg => rfl);(case hr => (go_simp;done));(case hp => exact (Reps.one (show Kd.M Kd.string _ _ _ ((rd_T52 l0 x8_2).f1) [.string ((rd_T52 l0 x8_2).f1)] from rfl) (Reps.none _ _)))
                       intro v404 w37 ho38 hb hg_ hnew_
                       clear hg_ hnew_
                       (rw [← Ny403.out] at ho38)
                       have n0_:=Aside0.mk (Kd.R_elder' (by exact HO_6.out) (Kd.R_base ho38) hb)
                       have n1_:=Aside0.mk (Kd.R_elder' (by exact HO402.out) (Kd.R_base ho38) hb)
                       have n2_:=Aside0.mk (Kd.R_lower (Kd.R_new' (Kd.R_new' ho38 (Kd.R_lt (by exact HO_6.out))) (Kd.R_lt (by exact HO402.out))) (below_size (by exact HB.out)))
                       have n3_:=Aside0.mk (Kd.C_below (by exact HR399.out) hb)
                       have n4_:=Aside0.mk (Kd.C_below (by exact HR412.out) hb)
                       have n5_:=Aside0.mk (below_step (by exact HB.out) hb)
                       clear HO_6
                       clear HO402
                       clear HR399
                       clear HR412
                       clear HB
                       have HO_6:=n0_
                       have HO402:=n1_
                       have HO405:=n2_
                       have HR399:=n3_
                       have HR412:=n4_
                       have HB:=n5_
                       clear n0_ n1_ n2_ n3_ n4_ n5_
                       clear hb ho38
                       refine hK.out _ _ trivial (fun hHeld => ?_)
                       clear hK K
                       refine norm_ (a':=?_) ?_ ?_
                       rotate_left
                       ·show Act.put _ (some 71) _ = _
                        simp only [Act.put,sA_,s0_,s1_,i64_w,i32_w]
                        rfl
                       exact norm_ (by simp only [putAll,Act.put,sA_,s0_,s1_]) (hCont (v394,v401,v404) _ ⟨(by exact Kd.R_mono HO402.out (fun _ hk => ⟨hk.2,hk.1⟩)),(by exact Kd.R_mono HO405.out (fun _ hk => ⟨hk.2,hk.1.2⟩)),(by exact Kd.R_mono HO_6.out (fun _ hk => ⟨hk.1.2,hk.2⟩)),(by exact HR412.out),(by exact HB.out)⟩)
                      ·skip
                       refine Kd.R_lit_step Kd.string _ 9 ?hg (N:=71) ?hd (xs:=([((rd_T52 l0 x8_2).f1)] : List ByteArray)) (inner := [.string ((rd_T52 l0 x8_2).f1)]) (ok:=fun _ => True) (okp:=fun _ => True) ?hr ?hp (fun _ hk => hk) trivial (Below.refl _ _) (Nat.le_refl _) (by simp) ?_;(case hd => rfl);(case hg => rfl);(case hr => (go_simp;done));(case hp => exact (Reps.one (show Kd.M Kd.string _ _ _ ((rd_T52 l0 x8_2).f1) [.string ((rd_T52 l0 x8_2).f1)] from rfl) (Reps.none _ _)))
                       intro v404 w36 ho37 hb hg_ hnew_
                       clear hg_ hnew_
                       (rw [← Ny403.out] at ho37)
                       have n0_:=Aside0.mk (Kd.R_elder' (by exact HO_6.out) (Kd.R_base ho37) hb)
                       have n1_:=Aside0.mk (Kd.R_elder' (by exact HO395.out) (Kd.R_base ho37) hb)
                       have n2_:=Aside0.mk (Kd.R_lower (Kd.R_new' (Kd.R_new' ho37 (Kd.R_lt (by exact HO_6.out))) (Kd.R_lt (by exact HO395.out))) (below_size (by exact HB.out)))
                       have n3_:=Aside0.mk (Kd.C_below (by exact HR399.out) hb)
                       have n4_:=Aside0.mk (Kd.C_below (by exact HR412.out) hb)
                       have n5_:=Aside0.mk (below_step (by exact HB.out) hb)
                       clear HO_6
                       clear HO395
                       clear HR399
                       clear HR412
                       clear HB
                       have HO_6:=n0_
                       have HO395:=n1_
                       have HO405:=n2_
                       have HR399:=n3_
                       have HR412:=n4_
                       have HB:=n5_
                       clear n0_ n1_ n2_ n3_ n4_ n5_
                       clear hb ho37
                       refine hK.out _ _ trivial (fun hHeld => ?_)
                       clear hK K
                       refine norm_ (a':=?_) ?_ ?_
                       rotate_left
                       ·show Act.put _ (some 71) _ = _
                        simp only [Act.put,sA_,s0_,s1_,i64_w,i32_w]
                        rfl
                       refine one_ (i:=4) (N:=some 69) #[true,true,true,true,true,true,true,false,true,true,true,false,false] rfl rfl (one_of HT_.out (by kernel_rfl)) (by decide) (fun K hK => ?_)
                       refine Kd.R_append_rows_step Kd.string (w0:=w) w.heap.size (by rfl) (.tmp 65) (.tmp 68) 35 9 (.string ⟨#[]⟩) 16 rfl Try.underlying35 info9 rfl (by decide) (by omega) v394 y393 y396 _ _ _ (fun k_ => some k_ ≠ (.slice (some ad392) x6_2.length co30 : Value).ownBlock ∧ some k_ ≠ (v404 : Value).ownBlock) (fun _ => False) rfl rfl ?aO ?aR (fun _ _ h => h) (fun _ h => h.elim) ?aF ?aB ?aS ?aL ?_
                       (case aR => repeat (exact (by repeat (exact HR399.out))))
                       (case aB => exact (by exact HB.out))
                       (case aF => exact (fun k_ hk => ⟨Kd.fresh' (Kd.R_lt (by exact HO_6.out)) k_ hk,Kd.fresh' (Kd.R_lt (by exact HO405.out)) k_ hk⟩))
                       (case aO => exact (by exact Kd.R_mono HO395.out (fun _ hk => ⟨hk.1.2,hk.2⟩)))
                       (case aS => exact (below_size (by exact HB.out)))
                       (case aL => have:=LMc25.out;omega)
                       intro v401 w38 ho hb hg hat
                       rw [← Ny400.out] at ho
                       have n0_:=Aside0.mk (Kd.R_after (ok:=(fun k_ => some k_ ≠ (v404 : Value).ownBlock)) (by exact Kd.R_mono HO_6.out (fun _ hk => ⟨hk.2,hk.1.2⟩)) hg hat)
                       have n1_:=Aside0.mk (Kd.R_after (ok:=(fun k_ => some k_ ≠ (.slice (some ad392) x6_2.length co30 : Value).ownBlock)) (by exact Kd.R_mono HO405.out (fun _ hk => ⟨hk.1.2,hk.2⟩)) hg hat)
                       have n2_:=Aside0.mk (hb)
                       have n3_:=Aside0.mk ((show Kd.C Kd.string w38 (some ad392) y396.length y396 from by rw [Ny396.out];exact Kd.C_take (m:=(x10_3 : Int).toNat) ((Kd.R_reads' (Kd.R_after (ok:=(fun k_ => some k_ ≠ (v404 : Value).ownBlock)) (by exact Kd.R_mono HO_6.out (fun _ hk => ⟨hk.2,hk.1.2⟩)) hg hat)).2.2) KL32.out))
                       have n4_:=Aside0.mk ((show Kd.C Kd.string w38 A33 y409.length y409 from by rw [Ny409.out,KA33.out];exact Kd.C_drop (m:=(x10_3 : Int).toNat) (c:=co30) ((Kd.R_reads' (Kd.R_after (ok:=(fun k_ => some k_ ≠ (v404 : Value).ownBlock)) (by exact Kd.R_mono HO_6.out (fun _ hk => ⟨hk.2,hk.1.2⟩)) hg hat)).2.2) KL33.out ((Kd.R_reads' (Kd.R_after (ok:=(fun k_ => some k_ ≠ (v404 : Value).ownBlock)) (by exact Kd.R_mono HO_6.out (fun _ hk => ⟨hk.2,hk.1.2⟩)) hg hat)).2.1)))
                       have n5_:=Aside0.mk (ho)
                       clear HO_6
                       clear HO405
                       clear HB
                       clear HR399
                       clear HR412
                       clear HO395
                       have HO_6:=n0_
                       have HO405:=n1_
                       have HB:=n2_
                       have HR399:=n3_
                       have HR412:=n4_
                       have HO402:=n5_
                       clear n0_ n1_ n2_ n3_ n4_ n5_
                       clear ho hb hg hat
                       refine hK.out _ _ trivial (fun hHeld => ?_)
                       clear hK K
                       refine norm_ (a':=?_) ?_ ?_
                       rotate_left
                       ·show Act.put _ (some 69) _ = _
                        simp only [Act.put,sA_,s0_,s1_,i64_w,i32_w]
                        rfl
                       exact norm_ (by simp only [putAll,Act.put,sA_,s0_,s1_]) (hCont (v394,v401,v404) _ ⟨(by exact Kd.R_mono HO402.out (fun _ hk => ⟨hk.2,hk.1⟩)),(by exact Kd.R_mono HO405.out (fun _ hk => ⟨hk.2,hk.1⟩)),(by exact Kd.R_mono HO_6.out (fun _ hk => ⟨hk.2,hk.1⟩)),(by exact HR412.out),(by exact HB.out)⟩)
                     ·skip
                      refine Kd.R_lit_step Kd.string _ 9 ?hg (N:=71) ?hd (xs:=([((rd_T52 l0 x8_2).f1)] : List ByteArray)) (inner := [.string ((rd_T52 l0 x8_2).f1)]) (ok:=fun _ => True) (okp:=fun _ => True) ?hr ?hp (fun _ hk => hk) trivial (Below.refl _ _) (Nat.le_refl _) (by simp) ?_;(case hd => rfl);(case hg => rfl);(case hr => (go_simp;done));(case hp => exact (Reps.one (show Kd.M Kd.string _ _ _ ((rd_T52 l0 x8_2).f1) [.string ((rd_T52 l0 x8_2).f1)] from rfl) (Reps.none _ _)))
                      intro v404 w34 ho35 hb hg_ hnew_
                      clear hg_ hnew_
                      (rw [← Ny403.out] at ho35)
                      have n0_:=Aside0.mk (Kd.R_elder' (by exact HO_6.out) (Kd.R_base ho35) hb)
                      have n1_:=Aside0.mk (Kd.R_lower (Kd.R_new' ho35 (Kd.R_lt (by exact HO_6.out))) (below_size (by exact HB.out)))
                      have n2_:=Aside0.mk (Kd.C_below (by exact HR399.out) hb)
                      have n3_:=Aside0.mk (Kd.C_below (by exact HR412.out) hb)
                      have n4_:=Aside0.mk (below_step (by exact HB.out) hb)
                      clear HO_6
                      clear HR399
                      clear HR412
                      clear HB
                      have HO_6:=n0_
                      have HO405:=n1_
                      have HR399:=n2_
                      have HR412:=n3_
                      have HB:=n4_
                      clear n0_ n1_ n2_ n3_ n4_
                      clear hb ho35
                      refine hK.out _ _ trivial (fun hHeld => ?_)
                      clear hK K
                      refine norm_ (a':=?_) ?_ ?_
                      rotate_left
                      ·show Act.put _ (some 71) _ = _
                       simp only [Act.put,sA_,s0_,s1_,i64_w,i32_w]
                       rfl
                      refine one_ (i:=0) (N:=some 65) #[true,true,true,true,false,true,true,false,true,true,true,false,false] rfl rfl (one_of HT_.out (by kernel_rfl)) (by decide) (fun K hK => ?_)
                      refine Kd.R_lit_step Kd.string _ 9 ?hg (N:=65) ?hd (xs:=([] : List ByteArray)) (inner := []) (ok:=fun _ => True) (okp:=fun _ => True) ?hr ?hp (fun _ hk => hk) trivial (Below.refl _ _) (Nat.le_refl _) (by simp) ?_;(case hd => rfl);(case hg => rfl);(case hr => (go_simp;done));(case hp => exact (Reps.none _ _))
                      intro v394 w36 ho37 hb hg_ hnew_
                      clear hg_ hnew_
                      (rw [← Ny393.out] at ho37)
                      have n0_:=Aside0.mk (Kd.R_elder' (by exact HO_6.out) (Kd.R_base ho37) hb)
                      have n1_:=Aside0.mk (Kd.R_elder' (by exact HO405.out) (Kd.R_base ho37) hb)
                      have n2_:=Aside0.mk (Kd.R_lower (Kd.R_new' (Kd.R_new' ho37 (Kd.R_lt (by exact HO_6.out))) (Kd.R_lt (by exact HO405.out))) (below_size (by exact HB.out)))
                      have n3_:=Aside0.mk (Kd.C_below (by exact HR399.out) hb)
                      have n4_:=Aside0.mk (Kd.C_below (by exact HR412.out) hb)
                      have n5_:=Aside0.mk (below_step (by exact HB.out) hb)
                      clear HO_6
                      clear HO405
                      clear HR399
                      clear HR412
                      clear HB
                      have HO_6:=n0_
                      have HO405:=n1_
                      have HO395:=n2_
                      have HR399:=n3_
                      have HR412:=n4_
                      have HB:=n5_
                      clear n0_ n1_ n2_ n3_ n4_ n5_
                      clear hb ho37
                      refine hK.out _ _ trivial (fun hHeld => ?_)
                      clear hK K
                      refine norm_ (a':=?_) ?_ ?_
                      rotate_left
                      ·show Act.put _ (some 65) _ = _
                       simp only [Act.put,sA_,s0_,s1_,i64_w,i32_w]
                       rfl
                      refine one_ (i:=4) (N:=some 69) #[true,true,true,true,true,true,true,false,true,true,true,false,false] rfl rfl (one_of HT_.out (by kernel_rfl)) (by decide) (fun K hK => ?_)
                      refine Kd.R_append_rows_step Kd.string (w0:=w) w.heap.size (by rfl) (.tmp 65) (.tmp 68) 35 9 (.string ⟨#[]⟩) 16 rfl Try.underlying35 info9 rfl (by decide) (by omega) v394 y393 y396 _ _ _ (fun k_ => some k_ ≠ (.slice (some ad392) x6_2.length co30 : Value).ownBlock ∧ some k_ ≠ (v404 : Value).ownBlock) (fun _ => False) rfl rfl ?aO ?aR (fun _ _ h => h) (fun _ h => h.elim) ?aF ?aB ?aS ?aL ?_
                      (case aR => repeat (exact (by repeat (exact HR399.out))))
                      (case aB => exact (by exact HB.out))
                      (case aF => exact (fun k_ hk => ⟨Kd.fresh' (Kd.R_lt (by exact HO_6.out)) k_ hk,Kd.fresh' (Kd.R_lt (by exact HO405.out)) k_ hk⟩))
                      (case aO => exact (by exact Kd.R_mono HO395.out (fun _ hk => ⟨hk.1.2,hk.2⟩)))
                      (case aS => exact (below_size (by exact HB.out)))
                      (case aL => have:=LMc25.out;omega)
                      intro v401 w38 ho hb hg hat
                      rw [← Ny400.out] at ho
                      have n0_:=Aside0.mk (Kd.R_after (ok:=(fun k_ => some k_ ≠ (v404 : Value).ownBlock)) (by exact Kd.R_mono HO_6.out (fun _ hk => ⟨hk.1.2,hk.2⟩)) hg hat)
                      have n1_:=Aside0.mk (Kd.R_after (ok:=(fun k_ => some k_ ≠ (.slice (some ad392) x6_2.length co30 : Value).ownBlock)) (by exact Kd.R_mono HO405.out (fun _ hk => ⟨hk.1.2,hk.2⟩)) hg hat)
                      have n2_:=Aside0.mk (hb)
                      have n3_:=Aside0.mk ((show Kd.C Kd.string w38 (some ad392) y396.length y396 from by rw [Ny396.out];exact Kd.C_take (m:=(x10_3 : Int).toNat) ((Kd.R_reads' (Kd.R_after (ok:=(fun k_ => some k_ ≠ (v404 : Value).ownBlock)) (by exact Kd.R_mono HO_6.out (fun _ hk => ⟨hk.1.2,hk.2⟩)) hg hat)).2.2) KL32.out))
                      have n4_:=Aside0.mk ((show Kd.C Kd.string w38 A33 y409.length y409 from by rw [Ny409.out,KA33.out];exact Kd.C_drop (m:=(x10_3 : Int).toNat) (c:=co30) ((Kd.R_reads' (Kd.R_after (ok:=(fun k_ => some k_ ≠ (v404 : Value).ownBlock)) (by exact Kd.R_mono HO_6.out (fun _ hk => ⟨hk.1.2,hk.2⟩)) hg hat)).2.2) KL33.out ((Kd.R_reads' (Kd.R_after (ok:=(fun k_ => some k_ ≠ (v404 : Value).ownBlock)) (by exact Kd.R_mono HO_6.out (fun _ hk => ⟨hk.1.2,hk.2⟩)) hg hat)).2.1)))
                      have n5_:=Aside0.mk (ho)
                      clear HO_6
                      clear HO405
                      clear HB
                      clear HR399
                      clear HR412
                      clear HO395
                      have HO_6:=n0_
                      have HO405:=n1_
                      have HB:=n2_
                      have HR399:=n3_
                      have HR412:=n4_
                      have HO402:=n5_
                      clear n0_ n1_ n2_ n3_ n4_ n5_
                      clear ho hb hg hat
                      refine hK.out _ _ trivial (fun hHeld => ?_)
                      clear hK K
                      refine norm_ (a':=?_) ?_ ?_
                      rotate_left
                      ·show Act.put _ (some 69) _ = _
                       simp only [Act.put,sA_,s0_,s1_,i64_w,i32_w]
                       rfl
                      exact norm_ (by simp only [putAll,Act.put,sA_,s0_,s1_]) (hCont (v394,v401,v404) _ ⟨(by exact Kd.R_mono HO402.out (fun _ hk => ⟨hk.2,hk.1⟩)),(by exact Kd.R_mono HO405.out (fun _ hk => ⟨hk.2,hk.1⟩)),(by exact Kd.R_mono HO_6.out (fun _ hk => ⟨hk.2,hk.1⟩)),(by exact HR412.out),(by exact HB.out)⟩)
                    rintro ⟨v394,v401,v404⟩ w39 ⟨h0_,h1_,h2_,h3_,h4_⟩
                    have n0_ : Aside0 (Kd.R Kd.string 9 w39 w.heap.size (fun k_ => some k_ ≠ (v404 : Value).ownBlock ∧ some k_ ≠ (.slice (some ad392) x6_2.length co30 : Value).ownBlock) v401 y400):=⟨h0_⟩
                    have n1_ : Aside0 (Kd.R Kd.string 9 w39 w.heap.size (fun k_ => some k_ ≠ (v401 : Value).ownBlock ∧ some k_ ≠ (.slice (some ad392) x6_2.length co30 : Value).ownBlock) v404 y403):=⟨h1_⟩
                    have n2_ : Aside0 (Kd.R Kd.string 9 w39 w.heap.size (fun k_ => some k_ ≠ (v401 : Value).ownBlock ∧ some k_ ≠ (v404 : Value).ownBlock) (.slice (some ad392) x6_2.length co30) x6_2):=⟨h2_⟩
                    have n3_ : Aside0 (Kd.C Kd.string w39 A33 y409.length y409):=⟨h3_⟩
                    have n4_ : Aside0 (Below w.heap.size w w39):=⟨h4_⟩
                    clear HO_6
                    clear HB
                    clear h0_ h1_ h2_ h3_ h4_
                    have HO402:=n0_
                    have HO405:=n1_
                    have HO_6:=n2_
                    have HR412:=n3_
                    have HB:=n4_
                    clear n0_ n1_ n2_ n3_ n4_
                    have hHeld:=trivial
                    obtain ⟨Ao41,co41,eo41⟩ := Kd.R_slice HO405.out
                    (subst eo41)
                    refine norm_ (a':=?_) ?_ ?_
                    rotate_left
                    ·simp only [putAll,Act.put,sA_,s0_,s1_]
                     rfl
                    refine one_ (i:=7) (N:=some 72) #[true,true,true,true,true,true,true,true,true,true,true,false,false] rfl rfl (one_of HT_.out (by kernel_rfl)) (by decide) (fun K hK => ?_)
                    refine Kd.R_append_rows_step Kd.string (w0:=w) w.heap.size (by rfl) (.tmp 69) (.tmp 71) 35 9 (.string ⟨#[]⟩) 16 rfl Try.underlying35 info9 rfl (by decide) (by omega) v401 y400 y403 _ _ _ (fun k_ => some k_ ≠ (.slice (some ad392) x6_2.length co30 : Value).ownBlock ∧ some k_ ≠ (.slice Ao41 y403.length co41 : Value).ownBlock) (fun _ => False) rfl rfl ?aO ?aR (fun _ _ h => h) (fun _ h => h.elim) ?aF ?aB ?aS ?aL ?_
                    (case aR => repeat (exact (Kd.R_reads' HO405.out).2.2))
                    (case aB => exact (by exact HB.out))
                    (case aF => exact (fun k_ hk => ⟨Kd.fresh' (Kd.R_lt (by exact HO_6.out)) k_ hk,Kd.fresh' (Kd.R_lt (by exact HO405.out)) k_ hk⟩))
                    (case aO => exact (by exact Kd.R_mono HO402.out (fun _ hk => ⟨hk.2,hk.1⟩)))
                    (case aS => exact (below_size (by exact HB.out)))
                    (case aL => have:=LMc26.out;omega)
                    intro v407 w40 ho hb hg hat
                    rw [← Ny406.out] at ho
                    have n0_:=Aside0.mk (Kd.R_after (ok:=(fun k_ => some k_ ≠ (.slice Ao41 y403.length co41 : Value).ownBlock)) (by exact Kd.R_mono HO_6.out (fun _ hk => ⟨hk.2,hk.1⟩)) hg hat)
                    have n1_:=Aside0.mk (Kd.R_after (ok:=(fun k_ => some k_ ≠ (.slice (some ad392) x6_2.length co30 : Value).ownBlock)) (by exact Kd.R_mono HO405.out (fun _ hk => ⟨hk.2,hk.1⟩)) hg hat)
                    have n2_:=Aside0.mk (hb)
                    have n3_:=Aside0.mk ((show Kd.C Kd.string w40 A33 y409.length y409 from by rw [Ny409.out,KA33.out];exact Kd.C_drop (m:=(x10_3 : Int).toNat) (c:=co30) ((Kd.R_reads' (Kd.R_after (ok:=(fun k_ => some k_ ≠ (.slice Ao41 y403.length co41 : Value).ownBlock)) (by exact Kd.R_mono HO_6.out (fun _ hk => ⟨hk.2,hk.1⟩)) hg hat)).2.2) KL33.out ((Kd.R_reads' (Kd.R_after (ok:=(fun k_ => some k_ ≠ (.slice Ao41 y403.length co41 : Value).ownBlock)) (by exact Kd.R_mono HO_6.out (fun _ hk => ⟨hk.2,hk.1⟩)) hg hat)).2.1)))
                    have n4_:=Aside0.mk (ho)
                    clear HO_6
                    clear HO405
                    clear HB
                    clear HR412
                    clear HO402
                    have HO_6:=n0_
                    have HO405:=n1_
                    have HB:=n2_
                    have HR412:=n3_
                    have HO408:=n4_
                    clear n0_ n1_ n2_ n3_ n4_
                    clear ho hb hg hat
                    refine hK.out _ _ trivial (fun hHeld => ?_)
                    clear hK K
                    refine norm_ (a':=?_) ?_ ?_
                    rotate_left
                    ·show Act.put _ (some 72) _ = _
                     simp only [Act.put,sA_,s0_,s1_,i64_w,i32_w]
                     rfl
                    refine one_ (i:=11) (N:=some 76) #[true,true,true,true,true,true,true,true,true,true,true,true,false] rfl rfl (one_of HT_.out (by kernel_rfl)) (by decide) (fun K hK => ?_)
                    refine Kd.R_append_rows_step Kd.string (w0:=w) w.heap.size (by rfl) (.tmp 72) (.tmp 75) 35 9 (.string ⟨#[]⟩) 16 rfl Try.underlying35 info9 rfl (by decide) (by omega) v407 y406 y409 _ _ _ (fun k_ => some k_ ≠ (.slice (some ad392) x6_2.length co30 : Value).ownBlock ∧ some k_ ≠ (.slice Ao41 y403.length co41 : Value).ownBlock) (fun _ => False) rfl rfl ?aO ?aR (fun _ _ h => h) (fun _ h => h.elim) ?aF ?aB ?aS ?aL ?_
                    (case aR => repeat (exact (by repeat (exact HR412.out))))
                    (case aB => exact (by exact HB.out))
                    (case aF => exact (fun k_ hk => ⟨Kd.fresh' (Kd.R_lt (by exact HO_6.out)) k_ hk,Kd.fresh' (Kd.R_lt (by exact HO405.out)) k_ hk⟩))
                    (case aO => exact (by exact HO408.out))
                    (case aS => exact (below_size (by exact HB.out)))
                    (case aL => have:=LMc29.out;omega)
                    intro v414 w42 ho hb hg hat
                    rw [← Ny413.out] at ho
                    have n0_:=Aside0.mk (Kd.R_after (ok:=(fun k_ => some k_ ≠ (.slice Ao41 y403.length co41 : Value).ownBlock)) (by exact HO_6.out) hg hat)
                    have n1_:=Aside0.mk (Kd.R_after (ok:=(fun k_ => some k_ ≠ (.slice (some ad392) x6_2.length co30 : Value).ownBlock)) (by exact HO405.out) hg hat)
                    have n2_:=Aside0.mk (hb)
                    have n3_:=Aside0.mk ((show Kd.C Kd.string w42 A33 y409.length y409 from by rw [Ny409.out,KA33.out];exact Kd.C_drop (m:=(x10_3 : Int).toNat) (c:=co30) ((Kd.R_reads' (Kd.R_after (ok:=(fun k_ => some k_ ≠ (.slice Ao41 y403.length co41 : Value).ownBlock)) (by exact HO_6.out) hg hat)).2.2) KL33.out ((Kd.R_reads' (Kd.R_after (ok:=(fun k_ => some k_ ≠ (.slice Ao41 y403.length co41 : Value).ownBlock)) (by exact HO_6.out) hg hat)).2.1)))
                    have n4_:=Aside0.mk (ho)
                    clear HO_6
                    clear HO405
                    clear HB
                    clear HR412
                    clear HO408
                    have HO_6:=n0_
                    have HO405:=n1_
                    have HB:=n2_
                    have HR412:=n3_
                    have HO415:=n4_
                    clear n0_ n1_ n2_ n3_ n4_
                    clear ho hb hg hat
                    refine hK.out _ _ trivial (fun hHeld => ?_)
                    clear hK K
                    refine norm_ (a':=?_) ?_ ?_
                    rotate_left
                    ·show Act.put _ (some 76) _ = _
                     simp only [Act.put,sA_,s0_,s1_,i64_w,i32_w]
                     rfl
                    refine pure_ (i:=12) (N:=some 6) (v:=?_) (a':=?_) #[true,true,true,true,true,true,true,true,true,true,true,true,true] rfl rfl (any_of HT_.out (by kernel_rfl)) (fun _ _ _ h => h) (Or.inl ⟨by rfl, ?_⟩) ?_ ?_
                    rotate_left
                    ·intro w'
                     go_simp
                     with_reducible rfl
                    rotate_left
                    ·simp only [Act.put,sA_,s0_,s1_,i64_w,i32_w]
                     rfl
                    refine done_ (done_of HT_.out (by kernel_rfl)) ?_
                    try go_wp2
                    go_roundg k3
                    case measure => have:=HJ2.out;have:=HK2.out;have:=HK3.out;omega
                    case rel => exact ⟨(y413),(wrap64 (x8_2 + 1)),(by rfl),H',⟨by have:=HJ2.out;have:=HK2.out;have:=HK3.out;omega⟩,⟨by exact Kd.R_mono HO415.out (fun _ hk => trivial)⟩,⟨by exact HB.out⟩⟩
                   ·rw [if_neg c29] at H
                    exact absurd H (by simp)
                  ·rw [if_neg c26] at H
                   exact absurd H (by simp)
                 ·rw [if_neg c25] at H
                  exact absurd H (by simp)
                ·rw [if_neg c24] at H
                 exact absurd H (by simp)
               ·rw [if_neg c22] at H
                have c22b0 : (x10_3 == (x6_2.length : Int)) = false:=beq_eq_false_iff_ne.mpr c22
                have c22b1 : (x10_3 != (x6_2.length : Int)) = true:=bne_iff_ne.mpr c22
                by_cases c43 : (rdOf ByteArray.empty x6_2 x10_3).toList = ((rd_T52 l0 x8_2).f1).toList
                ·rw [if_pos c43] at H
                 have c43b0 : ((rdOf ByteArray.empty x6_2 x10_3).toList == ((rd_T52 l0 x8_2).f1).toList) = true:=beq_iff_eq.mpr c43
                 have c43b1 : ((rdOf ByteArray.empty x6_2 x10_3).toList != ((rd_T52 l0 x8_2).f1).toList) = false:=bne_eq_false_iff_eq.mpr c43
                 clear c43
                 have H':=Aside0.mk H
                 clear H
                 obtain ⟨Ao44,co44,eo44⟩ := Kd.R_slice HO_6.out
                 subst eo44
                 have p392 : 0 ≤ (x10_3 : Int):=of_decide_eq_true (by (with_reducible assumption))
                 have q392 : x10_3 < (x6_2.length : Int):=of_decide_eq_true (by (with_reducible assumption))
                 obtain ⟨ad392,e392,hx392_0⟩ := Kd.at_string (Kd.R_reads' HO_6.out).2.2 x10_3 p392 q392
                 cases e392
                 replace p392:=eq_true p392
                 replace q392:=eq_true q392
                 have p416 : 0 ≤ (x10_3 : Int):=of_decide_eq_true (by (with_reducible assumption))
                 have q416 : x10_3 < (x6_2.length : Int):=of_decide_eq_true (by (with_reducible assumption))
                 obtain ⟨ad416,e416,hx416_0⟩ := Kd.at_string (Kd.R_reads' HO_6.out).2.2 x10_3 p416 q416
                 obtain rfl : ad392 = ad416:=(by injection e416)
                 replace p416:=eq_true p416
                 replace q416:=eq_true q416
                 go_wp2
                 go_roundg k3
                 case measure => have:=HJ2.out;have:=HK2.out;have:=HK3.out;omega
                 case rel => exact ⟨(x6_2),(wrap64 (x8_2 + 1)),(by rfl),H',⟨by have:=HJ2.out;have:=HK2.out;have:=HK3.out;omega⟩,⟨by exact HO_6.out⟩,⟨by exact HB.out⟩⟩
                ·rw [if_neg c43] at H
                 have c43b0 : ((rdOf ByteArray.empty x6_2 x10_3).toList == ((rd_T52 l0 x8_2).f1).toList) = false:=beq_eq_false_iff_ne.mpr c43
                 have c43b1 : ((rdOf ByteArray.empty x6_2 x10_3).toList != ((rd_T52 l0 x8_2).f1).toList) = true:=bne_iff_ne.mpr c43
                 obtain ⟨y417,hy417⟩ : ∃ y_ : List ByteArray,y_ = (([] : List ByteArray)):=⟨_,rfl⟩
                 replace H : (if x10_3 ≤ (x6_2.length : Int) then ((some (x6_2.take (x10_3 : Int).toNat : List ByteArray)).bind fun y420 => (if y417.length + y420.length < 8796093022208 then ((some (y417 ++ y420 : List ByteArray)).bind fun y424 => ((some (([((rd_T52 l0 x8_2).f1)] : List ByteArray) : List ByteArray)).bind fun y427 => (if y424.length + y427.length < 8796093022208 then ((some (y424 ++ y427 : List ByteArray)).bind fun y430 => ((some (x6_2.drop (x10_3 : Int).toNat : List ByteArray)).bind fun y433 => (if y430.length + y433.length < 8796093022208 then (spec_HeldContainers.l0 k3 l0 (y430 ++ y433) t389 (wrap64 (x8_2 + 1))) else (none)))) else (none)))) else (none))) else (none)) = some (r1,r2):=by (have H2_:=(Option.bind_some _ _).symm.trans H;rw [hy417];with_reducible exact H2_)
                 have Ny417:=Aside0.mk hy417
                 clear hy417
                 have c45b0:=eq_true (of_decide_eq_true (by (with_reducible assumption)) : 0 ≤ x10_3)
                 by_cases c46 : x10_3 ≤ (x6_2.length : Int)
                 ·rw [if_pos c46] at H
                  have c46b0:=eq_true c46
                  have c46b1 : decide (x10_3 ≤ (x6_2.length : Int)) = true:=decide_eq_true c46
                  clear c46
                  obtain ⟨y420,hy420⟩ : ∃ y_ : List ByteArray,y_ = (x6_2.take (x10_3 : Int).toNat):=⟨_,rfl⟩
                  replace H : (if y417.length + y420.length < 8796093022208 then ((some (y417 ++ y420 : List ByteArray)).bind fun y424 => ((some (([((rd_T52 l0 x8_2).f1)] : List ByteArray) : List ByteArray)).bind fun y427 => (if y424.length + y427.length < 8796093022208 then ((some (y424 ++ y427 : List ByteArray)).bind fun y430 => ((some (x6_2.drop (x10_3 : Int).toNat : List ByteArray)).bind fun y433 => (if y430.length + y433.length < 8796093022208 then (spec_HeldContainers.l0 k3 l0 (y430 ++ y433) t389 (wrap64 (x8_2 + 1))) else (none)))) else (none)))) else (none)) = some (r1,r2):=by (have H2_:=(Option.bind_some _ _).symm.trans H;rw [hy420];with_reducible exact H2_)
                  have Ny420:=Aside0.mk hy420
                  clear hy420
                  by_cases c47 : y417.length + y420.length < 8796093022208
                  ·rw [if_pos c47] at H
                   have LMc47:=Aside0.mk c47
                   clear c47
                   obtain ⟨y424,hy424⟩ : ∃ y_ : List ByteArray,y_ = (y417 ++ y420):=⟨_,rfl⟩
                   replace H : ((some (([((rd_T52 l0 x8_2).f1)] : List ByteArray) : List ByteArray)).bind fun y427 => (if y424.length + y427.length < 8796093022208 then ((some (y424 ++ y427 : List ByteArray)).bind fun y430 => ((some (x6_2.drop (x10_3 : Int).toNat : List ByteArray)).bind fun y433 => (if y430.length + y433.length < 8796093022208 then (spec_HeldContainers.l0 k3 l0 (y430 ++ y433) t389 (wrap64 (x8_2 + 1))) else (none)))) else (none))) = some (r1,r2):=by (have H2_:=(Option.bind_some _ _).symm.trans H;rw [hy424];with_reducible exact H2_)
                   have Ny424:=Aside0.mk hy424
                   clear hy424
                   obtain ⟨y427,hy427⟩ : ∃ y_ : List ByteArray,y_ = (([((rd_T52 l0 x8_2).f1)] : List ByteArray)):=⟨_,rfl⟩
                   replace H : (if y424.length + y427.length < 8796093022208 then ((some (y424 ++ y427 : List ByteArray)).bind fun y430 => ((some (x6_2.drop (x10_3 : Int).toNat : List ByteArray)).bind fun y433 => (if y430.length + y433.length < 8796093022208 then (spec_HeldContainers.l0 k3 l0 (y430 ++ y433) t389 (wrap64 (x8_2 + 1))) else (none)))) else (none)) = some (r1,r2):=by (have H2_:=(Option.bind_some _ _).symm.trans H;rw [hy427];with_reducible exact H2_)
                   have Ny427:=Aside0.mk hy427
                   clear hy427
                   by_cases c48 : y424.length + y427.length < 8796093022208
                   ·rw [if_pos c48] at H
                    have LMc48:=Aside0.mk c48
                    clear c48
                    obtain ⟨y430,hy430⟩ : ∃ y_ : List ByteArray,y_ = (y424 ++ y427):=⟨_,rfl⟩
                    replace H : ((some (x6_2.drop (x10_3 : Int).toNat : List ByteArray)).bind fun y433 => (if y430.length + y433.length < 8796093022208 then (spec_HeldContainers.l0 k3 l0 (y430 ++ y433) t389 (wrap64 (x8_2 + 1))) else (none))) = some (r1,r2):=by (have H2_:=(Option.bind_some _ _).symm.trans H;rw [hy430];with_reducible exact H2_)
                    have Ny430:=Aside0.mk hy430
                    clear hy430
                    have c49b0:=eq_true (of_decide_eq_true (by (with_reducible assumption)) : 0 ≤ x10_3)
                    have c50b0:=eq_true (of_decide_eq_true (by (with_reducible assumption)) : x10_3 ≤ (x6_2.length : Int))
                    obtain ⟨y433,hy433⟩ : ∃ y_ : List ByteArray,y_ = (x6_2.drop (x10_3 : Int).toNat):=⟨_,rfl⟩
                    replace H : (if y430.length + y433.length < 8796093022208 then (spec_HeldContainers.l0 k3 l0 (y430 ++ y433) t389 (wrap64 (x8_2 + 1))) else (none)) = some (r1,r2):=by (have H2_:=(Option.bind_some _ _).symm.trans H;rw [hy433];with_reducible exact H2_)
                    have Ny433:=Aside0.mk hy433
                    clear hy433
                    by_cases c51 : y430.length + y433.length < 8796093022208
                    ·rw [if_pos c51] at H
                     have LMc51:=Aside0.mk c51
                     clear c51
                     obtain ⟨y437,hy437⟩ : ∃ y_ : List ByteArray,y_ = (y430 ++ y433):=⟨_,rfl⟩
                     replace H : (spec_HeldContainers.l0 k3 l0 y437 t389 (wrap64 (x8_2 + 1))) = some (r1,r2):=by (rw [hy437];with_reducible exact H)
                     have Ny437:=Aside0.mk hy437
                     clear hy437
                     have H':=Aside0.mk H
                     clear H
                     obtain ⟨Ao52,co52,eo52⟩ := Kd.R_slice HO_6.out
                     subst eo52
                     have p392 : 0 ≤ (x10_3 : Int):=of_decide_eq_true (by (with_reducible assumption))
                     have q392 : x10_3 < (x6_2.length : Int):=of_decide_eq_true (by (with_reducible assumption))
                     obtain ⟨ad392,e392,hx392_0⟩ := Kd.at_string (Kd.R_reads' HO_6.out).2.2 x10_3 p392 q392
                     cases e392
                     replace p392:=eq_true p392
                     replace q392:=eq_true q392
                     have p416 : 0 ≤ (x10_3 : Int):=of_decide_eq_true (by (with_reducible assumption))
                     have q416 : x10_3 < (x6_2.length : Int):=of_decide_eq_true (by (with_reducible assumption))
                     obtain ⟨ad416,e416,hx416_0⟩ := Kd.at_string (Kd.R_reads' HO_6.out).2.2 x10_3 p416 q416
                     obtain rfl : ad392 = ad416:=(by injection e416)
                     replace p416:=eq_true p416
                     replace q416:=eq_true q416
                     try go_wp2
                     have n0_:=Aside0.mk (Kd.R_drew HO_6.out)
                     have n1_:=Aside0.mk (below_drew1 HB.out)
                     clear HO_6
                     clear HB
                     have HO_6:=n0_
                     have HB:=n1_
                     clear n0_ n1_
                     have q54 : (x10_3 : Int) ≤ ((x6_2.length : Int) : Int):=of_decide_eq_true (by (with_reducible assumption))
                     obtain ⟨i054,hi054,_,hsz54,_⟩ := info_parts info9
                     have hroom54 : x6_2.length ≤ co52:=(Kd.R_reads' HO_6.out).2.1
                     have hC54 : Kd.C Kd.string _ (some ad392) x6_2.length x6_2:=(Kd.R_reads' HO_6.out).2.2
                     have hcut54:=cut_to (P:=Try.prog) 35 9 .i64 Try.underlying35 hi054 (some ad392) x6_2.length co52 x10_3 (of_decide_eq_true (by (with_reducible assumption))) q54 hroom54
                     have hr54:=Kd.C_take (m:=(x10_3 : Int).toNat) hC54 (by omega)
                     have hy54 : y420.length = (x10_3 : Int).toNat:=(by rw [Ny420.out,List.length_take];omega)
                     rw [← Ny420.out] at hr54
                     rw [← hy54] at hcut54
                     have HR423:=Aside0.mk hr54
                     have HC423:=Aside0.mk (show y420.length ≤ co52 from by omega)
                     clear hr54 hC54 hroom54 hi054 hsz54
                     have KY54:=Aside0.mk hy54
                     clear hy54
                     have KL54:=Aside0.mk (show (x10_3 : Int).toNat ≤ x6_2.length from by omega)
                     replace q54:=eq_true q54
                     have q55 : (x10_3 : Int) ≤ ((x6_2.length : Int) : Int):=of_decide_eq_true (by (with_reducible assumption))
                     obtain ⟨i055,hi055,_,hsz55,_⟩ := info_parts info9
                     have hroom55 : x6_2.length ≤ co52:=(Kd.R_reads' HO_6.out).2.1
                     have hC55 : Kd.C Kd.string _ (some ad392) x6_2.length x6_2:=(Kd.R_reads' HO_6.out).2.2
                     have q055 : (0 : Int) ≤ (x10_3 : Int):=of_decide_eq_true (by (with_reducible assumption))
                     have hcut55:=cut_from (P:=Try.prog) 35 9 .i64 Try.underlying35 hi055 1 hsz55 (some ad392) x6_2.length co52 x10_3 q055 q55
                     have hr55:=Kd.C_drop (m:=(x10_3 : Int).toNat) (c:=co52) hC55 (by omega) hroom55
                     obtain ⟨A55,hA55⟩ : ∃ A1,A1 = (if co52 = (x10_3 : Int).toNat then (some ad392) else ((some ad392) : Option Addr).map (·.add ((x10_3 : Int).toNat * 1))):=⟨_,rfl⟩
                     obtain ⟨c55,hc55⟩ : ∃ c1,c1 = co52 - (x10_3 : Int).toNat:=⟨_,rfl⟩
                     have hy55 : y433.length = x6_2.length - (x10_3 : Int).toNat:=(by rw [Ny433.out,List.length_drop] <;> omega)
                     rw [show (x6_2).drop (x10_3 : Int).toNat = y433 from Ny433.out.symm] at hr55
                     replace hr55 : Kd.C Kd.string _ A55 y433.length y433:=(by rw [hA55];exact hr55)
                     rw [← hy55,← hA55,← hc55] at hcut55
                     have HR436:=Aside0.mk hr55
                     have HC436:=Aside0.mk (show y433.length ≤ c55 from by rw [hy55,hc55];exact Nat.sub_le_sub_right hroom55 _)
                     clear hr55 hC55 hroom55 hi055 hsz55 hc55
                     have KY55:=Aside0.mk hy55
                     have KA55:=Aside0.mk hA55
                     clear hy55 hA55
                     have KL55:=Aside0.mk (show (x10_3 : Int).toNat ≤ x6_2.length from by omega)
                     replace q55:=eq_true q55
                     refine start_ (n:=13) (S:=fun w' => True) (ds := []) #[false,false,false,false,false,false,false,false,false,false,false,false,false] (by kernel_rfl) rfl rfl trivial (fun hHeld => ?_);refine with_tabW spec_HeldContainers.tab14 spec_HeldContainers.bits14 (fun HT_ HW_ => ?_)
                     generalize wr.drew = w53 at HO_6 HB HR423 HR436 hHeld ⊢
                     refine pure_ (i:=1) (N:=some 66) (v:=?_) (a':=?_) #[false,true,false,false,false,false,false,false,false,false,false,false,false] rfl rfl (any_of HT_.out (by kernel_rfl)) (fun _ _ _ h => h) (Or.inl ⟨by rfl, ?_⟩) ?_ ?_
                     rotate_left
                     ·intro w'
                      go_simp
                      with_reducible rfl
                     rotate_left
                     ·simp only [Act.put,sA_,s0_,s1_,i64_w,i32_w]
                      rfl
                     refine pure_ (i:=2) (N:=some 67) (v:=?_) (a':=?_) #[false,true,true,false,false,false,false,false,false,false,false,false,false] rfl rfl (any_of HT_.out (by kernel_rfl)) (fun _ _ _ h => h) (Or.inl ⟨by rfl, ?_⟩) ?_ ?_
                     rotate_left
                     ·intro w'
                      go_simp
                      with_reducible rfl
                     rotate_left
                     ·simp only [Act.put,sA_,s0_,s1_,i64_w,i32_w]
                      rfl
                     refine pure_ (i:=3) (N:=some 68) (v:=?_) (a':=?_) #[false,true,true,true,false,false,false,false,false,false,false,false,false] rfl rfl (any_of HT_.out (by kernel_rfl)) (fun _ _ _ h => h) (Or.inl ⟨by rfl, ?_⟩) ?_ ?_
                     rotate_left
                     ·intro w'
                      go_simp
                      with_reducible rfl
                     rotate_left
                     ·simp only [Act.put,sA_,s0_,s1_,i64_w,i32_w]
                      rfl
                     refine pure_ (i:=5) (N:=some 70) (v:=?_) (a':=?_) #[false,true,true,true,false,true,false,false,false,false,false,false,false] rfl rfl (any_of HT_.out (by kernel_rfl)) (fun _ _ _ h => h) (Or.inl ⟨by rfl, ?_⟩) ?_ ?_
                     rotate_left
                     ·intro w'
                      go_simp
                      with_reducible rfl
                     rotate_left
                     ·simp only [Act.put,sA_,s0_,s1_,i64_w,i32_w]
                      rfl
                     refine pure_ (i:=8) (N:=some 73) (v:=?_) (a':=?_) #[false,true,true,true,false,true,false,false,true,false,false,false,false] rfl rfl (any_of HT_.out (by kernel_rfl)) (fun _ _ _ h => h) (Or.inl ⟨by rfl, ?_⟩) ?_ ?_
                     rotate_left
                     ·intro w'
                      go_simp
                      with_reducible rfl
                     rotate_left
                     ·simp only [Act.put,sA_,s0_,s1_,i64_w,i32_w]
                      rfl
                     refine pure_ (i:=9) (N:=some 74) (v:=?_) (a':=?_) #[false,true,true,true,false,true,false,false,true,true,false,false,false] rfl rfl (any_of HT_.out (by kernel_rfl)) (fun _ _ _ h => h) (Or.inl ⟨by rfl, ?_⟩) ?_ ?_
                     rotate_left
                     ·intro w'
                      go_simp
                      with_reducible rfl
                     rotate_left
                     ·simp only [Act.put,sA_,s0_,s1_,i64_w,i32_w]
                      rfl
                     refine pure_ (i:=10) (N:=some 75) (v:=?_) (a':=?_) #[false,true,true,true,false,true,false,false,true,true,true,false,false] rfl rfl (any_of HT_.out (by kernel_rfl)) (fun _ _ _ h => h) (Or.inl ⟨by rfl, ?_⟩) ?_ ?_
                     rotate_left
                     ·intro w'
                      go_simp
                      with_reducible rfl
                     rotate_left
                     ·simp only [Act.put,sA_,s0_,s1_,i64_w,i32_w]
                      rfl
                     refine join_ (σ:=Value × Value × Value) 3 #[true,true,true,true,true,true,true,false,true,true,true,false,false] (fun s_ => [(65,s_.1),(69,s_.2.1),(71,s_.2.2)]) (fun s_ w' => (Kd.R Kd.string 9 w' w.heap.size (fun k_ => some k_ ≠ (s_.2.2 : Value).ownBlock ∧ some k_ ≠ (.slice (some ad392) x6_2.length co52 : Value).ownBlock) s_.2.1 y424) ∧ (Kd.R Kd.string 9 w' w.heap.size (fun k_ => some k_ ≠ (s_.2.1 : Value).ownBlock ∧ some k_ ≠ (.slice (some ad392) x6_2.length co52 : Value).ownBlock) s_.2.2 y427) ∧ (Kd.R Kd.string 9 w' w.heap.size (fun k_ => some k_ ≠ (s_.2.1 : Value).ownBlock ∧ some k_ ≠ (s_.2.2 : Value).ownBlock) (.slice (some ad392) x6_2.length co52) x6_2) ∧ (Kd.C Kd.string w' A55 y433.length y433) ∧ (Below w.heap.size w w')) ?_ ?_
                     rotate_left
                     ·intro hCont
                      refine two_ (i:=0) (j:=6) (Ni:=some 65) (Nj:=some 71) #[true,true,true,true,false,true,false,false,true,true,true,false,false] #[false,true,true,true,false,true,true,false,true,true,true,false,false] rfl rfl rfl rfl (two_of HT_.out (by kernel_rfl)) (by decide) (by decide) (fun K hK => ?_) (fun K hK => ?_)
                      ·skip
                       refine Kd.R_lit_step Kd.string _ 9 ?hg (N:=65) ?hd (xs:=([] : List ByteArray)) (inner := []) (ok:=fun _ => True) (okp:=fun _ => True) ?hr ?hp (fun _ hk => hk) trivial (Below.refl _ _) (Nat.le_refl _) (by simp) ?_;(case hd => rfl);(case hg => rfl);(case hr => (go_simp;done));(case hp => exact (Reps.none _ _))
                       intro v418 w56 ho57 hb hg_ hnew_
                       clear hg_ hnew_
                       (rw [← Ny417.out] at ho57)
                       have n0_:=Aside0.mk (Kd.R_elder' (by exact HO_6.out) (Kd.R_base ho57) hb)
                       have n1_:=Aside0.mk (Kd.R_lower (Kd.R_new' ho57 (Kd.R_lt (by exact HO_6.out))) (below_size (by exact HB.out)))
                       have n2_:=Aside0.mk (Kd.C_below (by exact HR423.out) hb)
                       have n3_:=Aside0.mk (Kd.C_below (by exact HR436.out) hb)
                       have n4_:=Aside0.mk (below_step (by exact HB.out) hb)
                       clear HO_6
                       clear HR423
                       clear HR436
                       clear HB
                       have HO_6:=n0_
                       have HO419:=n1_
                       have HR423:=n2_
                       have HR436:=n3_
                       have HB:=n4_
                       clear n0_ n1_ n2_ n3_ n4_
                       clear hb ho57
                       refine hK.out _ _ trivial (fun hHeld => ?_)
                       clear hK K
                       refine norm_ (a':=?_) ?_ ?_
                       rotate_left
                       ·show Act.put _ (some 65) _ = _
                        simp only [Act.put,sA_,s0_,s1_,i64_w,i32_w]
                        rfl
                       refine two_ (i:=4) (j:=6) (Ni:=some 69) (Nj:=some 71) #[true,true,true,true,true,true,false,false,true,true,true,false,false] #[true,true,true,true,false,true,true,false,true,true,true,false,false] rfl rfl rfl rfl (two_of HT_.out (by kernel_rfl)) (by decide) (by decide) (fun K hK => ?_) (fun K hK => ?_)
                       ·skip
                        refine Kd.R_append_rows_step Kd.string (w0:=w) w.heap.size (by rfl) (.tmp 65) (.tmp 68) 35 9 (.string ⟨#[]⟩) 16 rfl Try.underlying35 info9 rfl (by decide) (by omega) v418 y417 y420 _ _ _ (fun k_ => some k_ ≠ (.slice (some ad392) x6_2.length co52 : Value).ownBlock) (fun _ => False) rfl rfl ?aO ?aR (fun _ _ h => h) (fun _ h => h.elim) ?aF ?aB ?aS ?aL ?_
                        (case aR => repeat (exact (by repeat (exact HR423.out))))
                        (case aB => exact (by exact HB.out))
                        (case aF => exact (fun k_ hk => Kd.fresh' (Kd.R_lt (by exact HO_6.out)) k_ hk))
                        (case aO => exact (by exact Kd.R_mono HO419.out (fun _ hk => hk.2)))
                        (case aS => exact (below_size (by exact HB.out)))
                        (case aL => have:=LMc47.out;omega)
                        intro v425 w58 ho hb hg hat
                        rw [← Ny424.out] at ho
                        have n0_:=Aside0.mk (Kd.R_after (ok:=(fun _ => True)) (by exact HO_6.out) hg hat)
                        have n1_:=Aside0.mk (hb)
                        have n2_:=Aside0.mk ((show Kd.C Kd.string w58 (some ad392) y420.length y420 from by rw [Ny420.out];exact Kd.C_take (m:=(x10_3 : Int).toNat) ((Kd.R_reads' (Kd.R_after (ok:=(fun _ => True)) (by exact HO_6.out) hg hat)).2.2) KL54.out))
                        have n3_:=Aside0.mk ((show Kd.C Kd.string w58 A55 y433.length y433 from by rw [Ny433.out,KA55.out];exact Kd.C_drop (m:=(x10_3 : Int).toNat) (c:=co52) ((Kd.R_reads' (Kd.R_after (ok:=(fun _ => True)) (by exact HO_6.out) hg hat)).2.2) KL55.out ((Kd.R_reads' (Kd.R_after (ok:=(fun _ => True)) (by exact HO_6.out) hg hat)).2.1)))
                        have n4_:=Aside0.mk (ho)
                        clear HO_6
                        clear HB
                        clear HR423
                        clear HR436
                        clear HO419
                        have HO_6:=n0_
                        have HB:=n1_
                        have HR423:=n2_
                        have HR436:=n3_
                        have HO426:=n4_
                        clear n0_ n1_ n2_ n3_ n4_
                        clear ho hb hg hat
                        refine hK.out _ _ trivial (fun hHeld => ?_)
                        clear hK K
                        refine norm_ (a':=?_) ?_ ?_
                        rotate_left
                        ·show Act.put _ (some 69) _ = _
                         simp only [Act.put,sA_,s0_,s1_,i64_w,i32_w]
                         rfl
                        refine one_ (i:=6) (N:=some 71) #[true,true,true,true,true,true,true,false,true,true,true,false,false] rfl rfl (one_of HT_.out (by kernel_rfl)) (by decide) (fun K hK => ?_)
                        refine Kd.R_lit_step Kd.string _ 9 ?hg (N:=71) ?hd (xs:=([((rd_T52 l0 x8_2).f1)] : List ByteArray)) (inner := [.string ((rd_T52 l0 x8_2).f1)]) (ok:=fun _ => True) (okp:=fun _ => True) ?hr ?hp (fun _ hk => hk) trivial (Below.refl _ _) (Nat.le_refl _) (by simp) ?_;(case hd => rfl);(case hg => rfl);(case hr => (go_simp;done));(case hp => exact (Reps.one (show Kd.M Kd.string _ _ _ ((rd_T52 l0 x8_2).f1) [.string ((rd_T52 l0 x8_2).f1)] from rfl) (Reps.none _ _)))
                        intro v428 w59 ho60 hb hg_ hnew_
                        clear hg_ hnew_
                        (rw [← Ny427.out] at ho60)
                        have n0_:=Aside0.mk (Kd.R_elder' (by exact HO_6.out) (Kd.R_base ho60) hb)
                        have n1_:=Aside0.mk (Kd.R_elder' (by exact HO426.out) (Kd.R_base ho60) hb)
                        have n2_:=Aside0.mk (Kd.R_lower (Kd.R_new' (Kd.R_new' ho60 (Kd.R_lt (by exact HO_6.out))) (Kd.R_lt (by exact HO426.out))) (below_size (by exact HB.out)))
                        have n3_:=Aside0.mk (Kd.C_below (by exact HR423.out) hb)
                        have n4_:=Aside0.mk (Kd.C_below (by exact HR436.out) hb)
                        have n5_:=Aside0.mk (below_step (by exact HB.out) hb)
                        clear HO_6
                        clear HO426
                        clear HR423
                        clear HR436
                        clear HB
                        have HO_6:=n0_
                        have HO426:=n1_
                        have HO429:=n2_
                        have HR423:=n3_
                        have HR436:=n4_
                        have HB:=n5_
                        clear n0_ n1_ n2_ n3_ n4_ n5_
                        clear hb ho60
                        refine hK.out _ _ trivial (fun hHeld => ?_)
                        clear hK K
                        refine norm_ (a':=?_) ?_ ?_
                        rotate_left
                        ·show Act.put _ (some 71) _ = _
                         simp only [Act.put,sA_,s0_,s1_,i64_w,i32_w]
                         rfl
                        exact norm_ (by simp only [putAll,Act.put,sA_,s0_,s1_]) (hCont (v418,v425,v428) _ ⟨(by exact Kd.R_mono HO426.out (fun _ hk => ⟨hk.2,hk.1⟩)),(by exact Kd.R_mono HO429.out (fun _ hk => ⟨hk.2,hk.1.2⟩)),(by exact Kd.R_mono HO_6.out (fun _ hk => ⟨hk.1.2,hk.2⟩)),(by exact HR436.out),(by exact HB.out)⟩)
                       ·skip
                        refine Kd.R_lit_step Kd.string _ 9 ?hg (N:=71) ?hd (xs:=([((rd_T52 l0 x8_2).f1)] : List ByteArray)) (inner := [.string ((rd_T52 l0 x8_2).f1)]) (ok:=fun _ => True) (okp:=fun _ => True) ?hr ?hp (fun _ hk => hk) trivial (Below.refl _ _) (Nat.le_refl _) (by simp) ?_;(case hd => rfl);(case hg => rfl);(case hr => (go_simp;done));(case hp => exact (Reps.one (show Kd.M Kd.string _ _ _ ((rd_T52 l0 x8_2).f1) [.string ((rd_T52 l0 x8_2).f1)] from rfl) (Reps.none _ _)))
                        intro v428 w58 ho59 hb hg_ hnew_
                        clear hg_ hnew_
                        (rw [← Ny427.out] at ho59)
                        have n0_:=Aside0.mk (Kd.R_elder' (by exact HO_6.out) (Kd.R_base ho59) hb)
                        have n1_:=Aside0.mk (Kd.R_elder' (by exact HO419.out) (Kd.R_base ho59) hb)
                        have n2_:=Aside0.mk (Kd.R_lower (Kd.R_new' (Kd.R_new' ho59 (Kd.R_lt (by exact HO_6.out))) (Kd.R_lt (by exact HO419.out))) (below_size (by exact HB.out)))
                        have n3_:=Aside0.mk (Kd.C_below (by exact HR423.out) hb)
                        have n4_:=Aside0.mk (Kd.C_below (by exact HR436.out) hb)
                        have n5_:=Aside0.mk (below_step (by exact HB.out) hb)
                        clear HO_6
                        clear HO419
                        clear HR423
                        clear HR436
                        clear HB
                        have HO_6:=n0_
                        have HO419:=n1_
                        have HO429:=n2_
                        have HR423:=n3_
                        have HR436:=n4_
                        have HB:=n5_
                        clear n0_ n1_ n2_ n3_ n4_ n5_
                        clear hb ho59
                        refine hK.out _ _ trivial (fun hHeld => ?_)
                        clear hK K
                        refine norm_ (a':=?_) ?_ ?_
                        rotate_left
                        ·show Act.put _ (some 71) _ = _
                         simp only [Act.put,sA_,s0_,s1_,i64_w,i32_w]
                         rfl
                        refine one_ (i:=4) (N:=some 69) #[true,true,true,true,true,true,true,false,true,true,true,false,false] rfl rfl (one_of HT_.out (by kernel_rfl)) (by decide) (fun K hK => ?_)
                        refine Kd.R_append_rows_step Kd.string (w0:=w) w.heap.size (by rfl) (.tmp 65) (.tmp 68) 35 9 (.string ⟨#[]⟩) 16 rfl Try.underlying35 info9 rfl (by decide) (by omega) v418 y417 y420 _ _ _ (fun k_ => some k_ ≠ (.slice (some ad392) x6_2.length co52 : Value).ownBlock ∧ some k_ ≠ (v428 : Value).ownBlock) (fun _ => False) rfl rfl ?aO ?aR (fun _ _ h => h) (fun _ h => h.elim) ?aF ?aB ?aS ?aL ?_
                        (case aR => repeat (exact (by repeat (exact HR423.out))))
                        (case aB => exact (by exact HB.out))
                        (case aF => exact (fun k_ hk => ⟨Kd.fresh' (Kd.R_lt (by exact HO_6.out)) k_ hk,Kd.fresh' (Kd.R_lt (by exact HO429.out)) k_ hk⟩))
                        (case aO => exact (by exact Kd.R_mono HO419.out (fun _ hk => ⟨hk.1.2,hk.2⟩)))
                        (case aS => exact (below_size (by exact HB.out)))
                        (case aL => have:=LMc47.out;omega)
                        intro v425 w60 ho hb hg hat
                        rw [← Ny424.out] at ho
                        have n0_:=Aside0.mk (Kd.R_after (ok:=(fun k_ => some k_ ≠ (v428 : Value).ownBlock)) (by exact Kd.R_mono HO_6.out (fun _ hk => ⟨hk.2,hk.1.2⟩)) hg hat)
                        have n1_:=Aside0.mk (Kd.R_after (ok:=(fun k_ => some k_ ≠ (.slice (some ad392) x6_2.length co52 : Value).ownBlock)) (by exact Kd.R_mono HO429.out (fun _ hk => ⟨hk.1.2,hk.2⟩)) hg hat)
                        have n2_:=Aside0.mk (hb)
                        have n3_:=Aside0.mk ((show Kd.C Kd.string w60 (some ad392) y420.length y420 from by rw [Ny420.out];exact Kd.C_take (m:=(x10_3 : Int).toNat) ((Kd.R_reads' (Kd.R_after (ok:=(fun k_ => some k_ ≠ (v428 : Value).ownBlock)) (by exact Kd.R_mono HO_6.out (fun _ hk => ⟨hk.2,hk.1.2⟩)) hg hat)).2.2) KL54.out))
                        have n4_:=Aside0.mk ((show Kd.C Kd.string w60 A55 y433.length y433 from by rw [Ny433.out,KA55.out];exact Kd.C_drop (m:=(x10_3 : Int).toNat) (c:=co52) ((Kd.R_reads' (Kd.R_after (ok:=(fun k_ => some k_ ≠ (v428 : Value).ownBlock)) (by exact Kd.R_mono HO_6.out (fun _ hk => ⟨hk.2,hk.1.2⟩)) hg hat)).2.2) KL55.out ((Kd.R_reads' (Kd.R_after (ok:=(fun k_ => some k_ ≠ (v428 : Value).ownBlock)) (by exact Kd.R_mono HO_6.out (fun _ hk => ⟨hk.2,hk.1.2⟩)) hg hat)).2.1)))
                        have n5_:=Aside0.mk (ho)
                        clear HO_6
                        clear HO429
                        clear HB
                        clear HR423
                        clear HR436
                        clear HO419
                        have HO_6:=n0_
                        have HO429:=n1_
                        have HB:=n2_
                        have HR423:=n3_
                        have HR436:=n4_
                        have HO426:=n5_
                        clear n0_ n1_ n2_ n3_ n4_ n5_
                        clear ho hb hg hat
                        refine hK.out _ _ trivial (fun hHeld => ?_)
                        clear hK K
                        refine norm_ (a':=?_) ?_ ?_
                        rotate_left
                        ·show Act.put _ (some 69) _ = _
                         simp only [Act.put,sA_,s0_,s1_,i64_w,i32_w]
                         rfl
                        exact norm_ (by simp only [putAll,Act.put,sA_,s0_,s1_]) (hCont (v418,v425,v428) _ ⟨(by exact Kd.R_mono HO426.out (fun _ hk => ⟨hk.2,hk.1⟩)),(by exact Kd.R_mono HO429.out (fun _ hk => ⟨hk.2,hk.1⟩)),(by exact Kd.R_mono HO_6.out (fun _ hk => ⟨hk.2,hk.1⟩)),(by exact HR436.out),(by exact HB.out)⟩)
                      ·skip
                       refine Kd.R_lit_step Kd.string _ 9 ?hg (N:=71) ?hd (xs:=([((rd_T52 l0 x8_2).f1)] : List ByteArray)) (inner := [.string ((rd_T52 l0 x8_2).f1)]) (ok:=fun _ => True) (okp:=fun _ => True) ?hr ?hp (fun _ hk => hk) trivial (Below.refl _ _) (Nat.le_refl _) (by simp) ?_;(case hd => rfl);(case hg => rfl);(case hr => (go_simp;done));(case hp => exact (Reps.one (show Kd.M Kd.string _ _ _ ((rd_T52 l0 x8_2).f1) [.string ((rd_T52 l0 x8_2).f1)] from rfl) (Reps.none _ _)))
                       intro v428 w56 ho57 hb hg_ hnew_
                       clear hg_ hnew_
                       (rw [← Ny427.out] at ho57)
                       have n0_:=Aside0.mk (Kd.R_elder' (by exact HO_6.out) (Kd.R_base ho57) hb)
                       have n1_:=Aside0.mk (Kd.R_lower (Kd.R_new' ho57 (Kd.R_lt (by exact HO_6.out))) (below_size (by exact HB.out)))
                       have n2_:=Aside0.mk (Kd.C_below (by exact HR423.out) hb)
                       have n3_:=Aside0.mk (Kd.C_below (by exact HR436.out) hb)
                       have n4_:=Aside0.mk (below_step (by exact HB.out) hb)
                       clear HO_6
                       clear HR423
                       clear HR436
                       clear HB
                       have HO_6:=n0_
                       have HO429:=n1_
                       have HR423:=n2_
                       have HR436:=n3_
                       have HB:=n4_
                       clear n0_ n1_ n2_ n3_ n4_
                       clear hb ho57
                       refine hK.out _ _ trivial (fun hHeld => ?_)
                       clear hK K
                       refine norm_ (a':=?_) ?_ ?_
                       rotate_left
                       ·show Act.put _ (some 71) _ = _
                        simp only [Act.put,sA_,s0_,s1_,i64_w,i32_w]
                        rfl
                       refine one_ (i:=0) (N:=some 65) #[true,true,true,true,false,true,true,false,true,true,true,false,false] rfl rfl (one_of HT_.out (by kernel_rfl)) (by decide) (fun K hK => ?_)
                       refine Kd.R_lit_step Kd.string _ 9 ?hg (N:=65) ?hd (xs:=([] : List ByteArray)) (inner := []) (ok:=fun _ => True) (okp:=fun _ => True) ?hr ?hp (fun _ hk => hk) trivial (Below.refl _ _) (Nat.le_refl _) (by simp) ?_;(case hd => rfl);(case hg => rfl);(case hr => (go_simp;done));(case hp => exact (Reps.none _ _))
                       intro v418 w58 ho59 hb hg_ hnew_
                       clear hg_ hnew_
                       (rw [← Ny417.out] at ho59)
                       have n0_:=Aside0.mk (Kd.R_elder' (by exact HO_6.out) (Kd.R_base ho59) hb)
                       have n1_:=Aside0.mk (Kd.R_elder' (by exact HO429.out) (Kd.R_base ho59) hb)
                       have n2_:=Aside0.mk (Kd.R_lower (Kd.R_new' (Kd.R_new' ho59 (Kd.R_lt (by exact HO_6.out))) (Kd.R_lt (by exact HO429.out))) (below_size (by exact HB.out)))
                       have n3_:=Aside0.mk (Kd.C_below (by exact HR423.out) hb)
                       have n4_:=Aside0.mk (Kd.C_below (by exact HR436.out) hb)
                       have n5_:=Aside0.mk (below_step (by exact HB.out) hb)
                       clear HO_6
                       clear HO429
                       clear HR423
                       clear HR436
                       clear HB
                       have HO_6:=n0_
                       have HO429:=n1_
                       have HO419:=n2_
                       have HR423:=n3_
                       have HR436:=n4_
                       have HB:=n5_
                       clear n0_ n1_ n2_ n3_ n4_ n5_
                       clear hb ho59
                       refine hK.out _ _ trivial (fun hHeld => ?_)
                       clear hK K
                       refine norm_ (a':=?_) ?_ ?_
                       rotate_left
                       ·show Act.put _ (some 65) _ = _
                        simp only [Act.put,sA_,s0_,s1_,i64_w,i32_w]
                        rfl
                       refine one_ (i:=4) (N:=some 69) #[true,true,true,true,true,true,true,false,true,true,true,false,false] rfl rfl (one_of HT_.out (by kernel_rfl)) (by decide) (fun K hK => ?_)
                       refine Kd.R_append_rows_step Kd.string (w0:=w) w.heap.size (by rfl) (.tmp 65) (.tmp 68) 35 9 (.string ⟨#[]⟩) 16 rfl Try.underlying35 info9 rfl (by decide) (by omega) v418 y417 y420 _ _ _ (fun k_ => some k_ ≠ (.slice (some ad392) x6_2.length co52 : Value).ownBlock ∧ some k_ ≠ (v428 : Value).ownBlock) (fun _ => False) rfl rfl ?aO ?aR (fun _ _ h => h) (fun _ h => h.elim) ?aF ?aB ?aS ?aL ?_
                       (case aR => repeat (exact (by repeat (exact HR423.out))))
                       (case aB => exact (by exact HB.out))
                       (case aF => exact (fun k_ hk => ⟨Kd.fresh' (Kd.R_lt (by exact HO_6.out)) k_ hk,Kd.fresh' (Kd.R_lt (by exact HO429.out)) k_ hk⟩))
                       (case aO => exact (by exact Kd.R_mono HO419.out (fun _ hk => ⟨hk.1.2,hk.2⟩)))
                       (case aS => exact (below_size (by exact HB.out)))
                       (case aL => have:=LMc47.out;omega)
                       intro v425 w60 ho hb hg hat
                       rw [← Ny424.out] at ho
                       have n0_:=Aside0.mk (Kd.R_after (ok:=(fun k_ => some k_ ≠ (v428 : Value).ownBlock)) (by exact Kd.R_mono HO_6.out (fun _ hk => ⟨hk.1.2,hk.2⟩)) hg hat)
                       have n1_:=Aside0.mk (Kd.R_after (ok:=(fun k_ => some k_ ≠ (.slice (some ad392) x6_2.length co52 : Value).ownBlock)) (by exact Kd.R_mono HO429.out (fun _ hk => ⟨hk.1.2,hk.2⟩)) hg hat)
                       have n2_:=Aside0.mk (hb)
                       have n3_:=Aside0.mk ((show Kd.C Kd.string w60 (some ad392) y420.length y420 from by rw [Ny420.out];exact Kd.C_take (m:=(x10_3 : Int).toNat) ((Kd.R_reads' (Kd.R_after (ok:=(fun k_ => some k_ ≠ (v428 : Value).ownBlock)) (by exact Kd.R_mono HO_6.out (fun _ hk => ⟨hk.1.2,hk.2⟩)) hg hat)).2.2) KL54.out))
                       have n4_:=Aside0.mk ((show Kd.C Kd.string w60 A55 y433.length y433 from by rw [Ny433.out,KA55.out];exact Kd.C_drop (m:=(x10_3 : Int).toNat) (c:=co52) ((Kd.R_reads' (Kd.R_after (ok:=(fun k_ => some k_ ≠ (v428 : Value).ownBlock)) (by exact Kd.R_mono HO_6.out (fun _ hk => ⟨hk.1.2,hk.2⟩)) hg hat)).2.2) KL55.out ((Kd.R_reads' (Kd.R_after (ok:=(fun k_ => some k_ ≠ (v428 : Value).ownBlock)) (by exact Kd.R_mono HO_6.out (fun _ hk => ⟨hk.1.2,hk.2⟩)) hg hat)).2.1)))
                       have n5_:=Aside0.mk (ho)
                       clear HO_6
                       clear HO429
                       clear HB
                       clear HR423
                       clear HR436
                       clear HO419
                       have HO_6:=n0_
                       have HO429:=n1_
                       have HB:=n2_
                       have HR423:=n3_
                       have HR436:=n4_
                       have HO426:=n5_
                       clear n0_ n1_ n2_ n3_ n4_ n5_
                       clear ho hb hg hat
                       refine hK.out _ _ trivial (fun hHeld => ?_)
                       clear hK K
                       refine norm_ (a':=?_) ?_ ?_
                       rotate_left
                       ·show Act.put _ (some 69) _ = _
                        simp only [Act.put,sA_,s0_,s1_,i64_w,i32_w]
                        rfl
                       exact norm_ (by simp only [putAll,Act.put,sA_,s0_,s1_]) (hCont (v418,v425,v428) _ ⟨(by exact Kd.R_mono HO426.out (fun _ hk => ⟨hk.2,hk.1⟩)),(by exact Kd.R_mono HO429.out (fun _ hk => ⟨hk.2,hk.1⟩)),(by exact Kd.R_mono HO_6.out (fun _ hk => ⟨hk.2,hk.1⟩)),(by exact HR436.out),(by exact HB.out)⟩)
                     rintro ⟨v418,v425,v428⟩ w61 ⟨h0_,h1_,h2_,h3_,h4_⟩
                     have n0_ : Aside0 (Kd.R Kd.string 9 w61 w.heap.size (fun k_ => some k_ ≠ (v428 : Value).ownBlock ∧ some k_ ≠ (.slice (some ad392) x6_2.length co52 : Value).ownBlock) v425 y424):=⟨h0_⟩
                     have n1_ : Aside0 (Kd.R Kd.string 9 w61 w.heap.size (fun k_ => some k_ ≠ (v425 : Value).ownBlock ∧ some k_ ≠ (.slice (some ad392) x6_2.length co52 : Value).ownBlock) v428 y427):=⟨h1_⟩
                     have n2_ : Aside0 (Kd.R Kd.string 9 w61 w.heap.size (fun k_ => some k_ ≠ (v425 : Value).ownBlock ∧ some k_ ≠ (v428 : Value).ownBlock) (.slice (some ad392) x6_2.length co52) x6_2):=⟨h2_⟩
                     have n3_ : Aside0 (Kd.C Kd.string w61 A55 y433.length y433):=⟨h3_⟩
                     have n4_ : Aside0 (Below w.heap.size w w61):=⟨h4_⟩
                     clear HO_6
                     clear HB
                     clear h0_ h1_ h2_ h3_ h4_
                     have HO426:=n0_
                     have HO429:=n1_
                     have HO_6:=n2_
                     have HR436:=n3_
                     have HB:=n4_
                     clear n0_ n1_ n2_ n3_ n4_
                     have hHeld:=trivial
                     obtain ⟨Ao63,co63,eo63⟩ := Kd.R_slice HO429.out
                     (subst eo63)
                     refine norm_ (a':=?_) ?_ ?_
                     rotate_left
                     ·simp only [putAll,Act.put,sA_,s0_,s1_]
                      rfl
                     refine one_ (i:=7) (N:=some 72) #[true,true,true,true,true,true,true,true,true,true,true,false,false] rfl rfl (one_of HT_.out (by kernel_rfl)) (by decide) (fun K hK => ?_)
                     refine Kd.R_append_rows_step Kd.string (w0:=w) w.heap.size (by rfl) (.tmp 69) (.tmp 71) 35 9 (.string ⟨#[]⟩) 16 rfl Try.underlying35 info9 rfl (by decide) (by omega) v425 y424 y427 _ _ _ (fun k_ => some k_ ≠ (.slice (some ad392) x6_2.length co52 : Value).ownBlock ∧ some k_ ≠ (.slice Ao63 y427.length co63 : Value).ownBlock) (fun _ => False) rfl rfl ?aO ?aR (fun _ _ h => h) (fun _ h => h.elim) ?aF ?aB ?aS ?aL ?_
                     (case aR => repeat (exact (Kd.R_reads' HO429.out).2.2))
                     (case aB => exact (by exact HB.out))
                     (case aF => exact (fun k_ hk => ⟨Kd.fresh' (Kd.R_lt (by exact HO_6.out)) k_ hk,Kd.fresh' (Kd.R_lt (by exact HO429.out)) k_ hk⟩))
                     (case aO => exact (by exact Kd.R_mono HO426.out (fun _ hk => ⟨hk.2,hk.1⟩)))
                     (case aS => exact (below_size (by exact HB.out)))
                     (case aL => have:=LMc48.out;omega)
                     intro v431 w62 ho hb hg hat
                     rw [← Ny430.out] at ho
                     have n0_:=Aside0.mk (Kd.R_after (ok:=(fun k_ => some k_ ≠ (.slice Ao63 y427.length co63 : Value).ownBlock)) (by exact Kd.R_mono HO_6.out (fun _ hk => ⟨hk.2,hk.1⟩)) hg hat)
                     have n1_:=Aside0.mk (Kd.R_after (ok:=(fun k_ => some k_ ≠ (.slice (some ad392) x6_2.length co52 : Value).ownBlock)) (by exact Kd.R_mono HO429.out (fun _ hk => ⟨hk.2,hk.1⟩)) hg hat)
                     have n2_:=Aside0.mk (hb)
                     have n3_:=Aside0.mk ((show Kd.C Kd.string w62 A55 y433.length y433 from by rw [Ny433.out,KA55.out];exact Kd.C_drop (m:=(x10_3 : Int).toNat) (c:=co52) ((Kd.R_reads' (Kd.R_after (ok:=(fun k_ => some k_ ≠ (.slice Ao63 y427.length co63 : Value).ownBlock)) (by exact Kd.R_mono HO_6.out (fun _ hk => ⟨hk.2,hk.1⟩)) hg hat)).2.2) KL55.out ((Kd.R_reads' (Kd.R_after (ok:=(fun k_ => some k_ ≠ (.slice Ao63 y427.length co63 : Value).ownBlock)) (by exact Kd.R_mono HO_6.out (fun _ hk => ⟨hk.2,hk.1⟩)) hg hat)).2.1)))
                     have n4_:=Aside0.mk (ho)
                     clear HO_6
                     clear HO429
                     clear HB
                     clear HR436
                     clear HO426
                     have HO_6:=n0_
                     have HO429:=n1_
                     have HB:=n2_
                     have HR436:=n3_
                     have HO432:=n4_
                     clear n0_ n1_ n2_ n3_ n4_
                     clear ho hb hg hat
                     refine hK.out _ _ trivial (fun hHeld => ?_)
                     clear hK K
                     refine norm_ (a':=?_) ?_ ?_
                     rotate_left
                     ·show Act.put _ (some 72) _ = _
                      simp only [Act.put,sA_,s0_,s1_,i64_w,i32_w]
                      rfl
                     refine one_ (i:=11) (N:=some 76) #[true,true,true,true,true,true,true,true,true,true,true,true,false] rfl rfl (one_of HT_.out (by kernel_rfl)) (by decide) (fun K hK => ?_)
                     refine Kd.R_append_rows_step Kd.string (w0:=w) w.heap.size (by rfl) (.tmp 72) (.tmp 75) 35 9 (.string ⟨#[]⟩) 16 rfl Try.underlying35 info9 rfl (by decide) (by omega) v431 y430 y433 _ _ _ (fun k_ => some k_ ≠ (.slice (some ad392) x6_2.length co52 : Value).ownBlock ∧ some k_ ≠ (.slice Ao63 y427.length co63 : Value).ownBlock) (fun _ => False) rfl rfl ?aO ?aR (fun _ _ h => h) (fun _ h => h.elim) ?aF ?aB ?aS ?aL ?_
                     (case aR => repeat (exact (by repeat (exact HR436.out))))
                     (case aB => exact (by exact HB.out))
                     (case aF => exact (fun k_ hk => ⟨Kd.fresh' (Kd.R_lt (by exact HO_6.out)) k_ hk,Kd.fresh' (Kd.R_lt (by exact HO429.out)) k_ hk⟩))
                     (case aO => exact (by exact HO432.out))
                     (case aS => exact (below_size (by exact HB.out)))
                     (case aL => have:=LMc51.out;omega)
                     intro v438 w64 ho hb hg hat
                     rw [← Ny437.out] at ho
                     have n0_:=Aside0.mk (Kd.R_after (ok:=(fun k_ => some k_ ≠ (.slice Ao63 y427.length co63 : Value).ownBlock)) (by exact HO_6.out) hg hat)
                     have n1_:=Aside0.mk (Kd.R_after (ok:=(fun k_ => some k_ ≠ (.slice (some ad392) x6_2.length co52 : Value).ownBlock)) (by exact HO429.out) hg hat)
                     have n2_:=Aside0.mk (hb)
                     have n3_:=Aside0.mk ((show Kd.C Kd.string w64 A55 y433.length y433 from by rw [Ny433.out,KA55.out];exact Kd.C_drop (m:=(x10_3 : Int).toNat) (c:=co52) ((Kd.R_reads' (Kd.R_after (ok:=(fun k_ => some k_ ≠ (.slice Ao63 y427.length co63 : Value).ownBlock)) (by exact HO_6.out) hg hat)).2.2) KL55.out ((Kd.R_reads' (Kd.R_after (ok:=(fun k_ => some k_ ≠ (.slice Ao63 y427.length co63 : Value).ownBlock)) (by exact HO_6.out) hg hat)).2.1)))
                     have n4_:=Aside0.mk (ho)
                     clear HO_6
                     clear HO429
                     clear HB
                     clear HR436
                     clear HO432
                     have HO_6:=n0_
                     have HO429:=n1_
                     have HB:=n2_
                     have HR436:=n3_
                     have HO439:=n4_
                     clear n0_ n1_ n2_ n3_ n4_
                     clear ho hb hg hat
                     refine hK.out _ _ trivial (fun hHeld => ?_)
                     clear hK K
                     refine norm_ (a':=?_) ?_ ?_
                     rotate_left
                     ·show Act.put _ (some 76) _ = _
                      simp only [Act.put,sA_,s0_,s1_,i64_w,i32_w]
                      rfl
                     refine pure_ (i:=12) (N:=some 6) (v:=?_) (a':=?_) #[true,true,true,true,true,true,true,true,true,true,true,true,true] rfl rfl (any_of HT_.out (by kernel_rfl)) (fun _ _ _ h => h) (Or.inl ⟨by rfl, ?_⟩) ?_ ?_
                     rotate_left
                     ·intro w'
                      go_simp
                      with_reducible rfl
                     rotate_left
                     ·simp only [Act.put,sA_,s0_,s1_,i64_w,i32_w]
                      rfl
                     refine done_ (done_of HT_.out (by kernel_rfl)) ?_
                     try go_wp2
                     go_roundg k3
                     case measure => have:=HJ2.out;have:=HK2.out;have:=HK3.out;omega
                     case rel => exact ⟨(y437),(wrap64 (x8_2 + 1)),(by rfl),H',⟨by have:=HJ2.out;have:=HK2.out;have:=HK3.out;omega⟩,⟨by exact Kd.R_mono HO439.out (fun _ hk => trivial)⟩,⟨by exact HB.out⟩⟩
                    ·rw [if_neg c51] at H
                     exact absurd H (by simp)
                   ·rw [if_neg c48] at H
                    exact absurd H (by simp)
                  ·rw [if_neg c47] at H
                   exact absurd H (by simp)
                 ·rw [if_neg c46] at H
                  exact absurd H (by simp)
             ·rw [if_neg c19] at H
              exact absurd H (by simp)
            ·rw [if_neg c18] at H
             have c18b0 : decide (x10_3 < (x6_2.length : Int)) = false:=decide_eq_false c18
             clear c18
             by_cases c65 : x10_3 = (x6_2.length : Int)
             ·rw [if_pos c65] at H
              have c65b0 : (x10_3 == (x6_2.length : Int)) = true:=beq_iff_eq.mpr c65
              have c65b1 : (x10_3 != (x6_2.length : Int)) = false:=bne_eq_false_iff_eq.mpr c65
              clear c65
              obtain ⟨y440,hy440⟩ : ∃ y_ : List ByteArray,y_ = (([] : List ByteArray)):=⟨_,rfl⟩
              replace H : (if 0 ≤ x10_3 then (if x10_3 ≤ (x6_2.length : Int) then ((some (x6_2.take (x10_3 : Int).toNat : List ByteArray)).bind fun y443 => (if y440.length + y443.length < 8796093022208 then ((some (y440 ++ y443 : List ByteArray)).bind fun y447 => ((some (([((rd_T52 l0 x8_2).f1)] : List ByteArray) : List ByteArray)).bind fun y450 => (if y447.length + y450.length < 8796093022208 then ((some (y447 ++ y450 : List ByteArray)).bind fun y453 => ((some (x6_2.drop (x10_3 : Int).toNat : List ByteArray)).bind fun y456 => (if y453.length + y456.length < 8796093022208 then (spec_HeldContainers.l0 k3 l0 (y453 ++ y456) t389 (wrap64 (x8_2 + 1))) else (none)))) else (none)))) else (none))) else (none)) else (none)) = some (r1,r2):=by (have H2_:=(Option.bind_some _ _).symm.trans H;rw [hy440];with_reducible exact H2_)
              have Ny440:=Aside0.mk hy440
              clear hy440
              by_cases c66 : 0 ≤ x10_3
              ·rw [if_pos c66] at H
               have c66b0:=eq_true c66
               have c66b1 : decide (0 ≤ x10_3) = true:=decide_eq_true c66
               clear c66
               by_cases c67 : x10_3 ≤ (x6_2.length : Int)
               ·rw [if_pos c67] at H
                have c67b0:=eq_true c67
                have c67b1 : decide (x10_3 ≤ (x6_2.length : Int)) = true:=decide_eq_true c67
                clear c67
                obtain ⟨y443,hy443⟩ : ∃ y_ : List ByteArray,y_ = (x6_2.take (x10_3 : Int).toNat):=⟨_,rfl⟩
                replace H : (if y440.length + y443.length < 8796093022208 then ((some (y440 ++ y443 : List ByteArray)).bind fun y447 => ((some (([((rd_T52 l0 x8_2).f1)] : List ByteArray) : List ByteArray)).bind fun y450 => (if y447.length + y450.length < 8796093022208 then ((some (y447 ++ y450 : List ByteArray)).bind fun y453 => ((some (x6_2.drop (x10_3 : Int).toNat : List ByteArray)).bind fun y456 => (if y453.length + y456.length < 8796093022208 then (spec_HeldContainers.l0 k3 l0 (y453 ++ y456) t389 (wrap64 (x8_2 + 1))) else (none)))) else (none)))) else (none)) = some (r1,r2):=by (have H2_:=(Option.bind_some _ _).symm.trans H;rw [hy443];with_reducible exact H2_)
                have Ny443:=Aside0.mk hy443
                clear hy443
                by_cases c68 : y440.length + y443.length < 8796093022208
                ·rw [if_pos c68] at H
                 have LMc68:=Aside0.mk c68
                 clear c68
                 obtain ⟨y447,hy447⟩ : ∃ y_ : List ByteArray,y_ = (y440 ++ y443):=⟨_,rfl⟩
                 replace H : ((some (([((rd_T52 l0 x8_2).f1)] : List ByteArray) : List ByteArray)).bind fun y450 => (if y447.length + y450.length < 8796093022208 then ((some (y447 ++ y450 : List ByteArray)).bind fun y453 => ((some (x6_2.drop (x10_3 : Int).toNat : List ByteArray)).bind fun y456 => (if y453.length + y456.length < 8796093022208 then (spec_HeldContainers.l0 k3 l0 (y453 ++ y456) t389 (wrap64 (x8_2 + 1))) else (none)))) else (none))) = some (r1,r2):=by (have H2_:=(Option.bind_some _ _).symm.trans H;rw [hy447];with_reducible exact H2_)
                 have Ny447:=Aside0.mk hy447
                 clear hy447
                 obtain ⟨y450,hy450⟩ : ∃ y_ : List ByteArray,y_ = (([((rd_T52 l0 x8_2).f1)] : List ByteArray)):=⟨_,rfl⟩
                 replace H : (if y447.length + y450.length < 8796093022208 then ((some (y447 ++ y450 : List ByteArray)).bind fun y453 => ((some (x6_2.drop (x10_3 : Int).toNat : List ByteArray)).bind fun y456 => (if y453.length + y456.length < 8796093022208 then (spec_HeldContainers.l0 k3 l0 (y453 ++ y456) t389 (wrap64 (x8_2 + 1))) else (none)))) else (none)) = some (r1,r2):=by (have H2_:=(Option.bind_some _ _).symm.trans H;rw [hy450];with_reducible exact H2_)
                 have Ny450:=Aside0.mk hy450
                 clear hy450
                 by_cases c69 : y447.length + y450.length < 8796093022208
                 ·rw [if_pos c69] at H
                  have LMc69:=Aside0.mk c69
                  clear c69
                  obtain ⟨y453,hy453⟩ : ∃ y_ : List ByteArray,y_ = (y447 ++ y450):=⟨_,rfl⟩
                  replace H : ((some (x6_2.drop (x10_3 : Int).toNat : List ByteArray)).bind fun y456 => (if y453.length + y456.length < 8796093022208 then (spec_HeldContainers.l0 k3 l0 (y453 ++ y456) t389 (wrap64 (x8_2 + 1))) else (none))) = some (r1,r2):=by (have H2_:=(Option.bind_some _ _).symm.trans H;rw [hy453];with_reducible exact H2_)
                  have Ny453:=Aside0.mk hy453
                  clear hy453
                  have c70b0:=eq_true (of_decide_eq_true (by (with_reducible assumption)) : 0 ≤ x10_3)
                  have c71b0:=eq_true (of_decide_eq_true (by (with_reducible assumption)) : x10_3 ≤ (x6_2.length : Int))
                  obtain ⟨y456,hy456⟩ : ∃ y_ : List ByteArray,y_ = (x6_2.drop (x10_3 : Int).toNat):=⟨_,rfl⟩
                  replace H : (if y453.length + y456.length < 8796093022208 then (spec_HeldContainers.l0 k3 l0 (y453 ++ y456) t389 (wrap64 (x8_2 + 1))) else (none)) = some (r1,r2):=by (have H2_:=(Option.bind_some _ _).symm.trans H;rw [hy456];with_reducible exact H2_)
                  have Ny456:=Aside0.mk hy456
                  clear hy456
                  by_cases c72 : y453.length + y456.length < 8796093022208
                  ·rw [if_pos c72] at H
                   have LMc72:=Aside0.mk c72
                   clear c72
                   obtain ⟨y460,hy460⟩ : ∃ y_ : List ByteArray,y_ = (y453 ++ y456):=⟨_,rfl⟩
                   replace H : (spec_HeldContainers.l0 k3 l0 y460 t389 (wrap64 (x8_2 + 1))) = some (r1,r2):=by (rw [hy460];with_reducible exact H)
                   have Ny460:=Aside0.mk hy460
                   clear hy460
                   have H':=Aside0.mk H
                   clear H
                   obtain ⟨Ao73,co73,eo73⟩ := Kd.R_slice HO_6.out
                   subst eo73
                   try go_wp2
                   have n0_:=Aside0.mk (Kd.R_drew HO_6.out)
                   have n1_:=Aside0.mk (below_drew1 HB.out)
                   clear HO_6
                   clear HB
                   have HO_6:=n0_
                   have HB:=n1_
                   clear n0_ n1_
                   have q75 : (x10_3 : Int) ≤ ((x6_2.length : Int) : Int):=of_decide_eq_true (by (with_reducible assumption))
                   obtain ⟨i075,hi075,_,hsz75,_⟩ := info_parts info9
                   have hroom75 : x6_2.length ≤ co73:=(Kd.R_reads' HO_6.out).2.1
                   have hC75 : Kd.C Kd.string _ Ao73 x6_2.length x6_2:=(Kd.R_reads' HO_6.out).2.2
                   have hcut75:=cut_to (P:=Try.prog) 35 9 .i64 Try.underlying35 hi075 Ao73 x6_2.length co73 x10_3 (of_decide_eq_true (by (with_reducible assumption))) q75 hroom75
                   have hr75:=Kd.C_take (m:=(x10_3 : Int).toNat) hC75 (by omega)
                   have hy75 : y443.length = (x10_3 : Int).toNat:=(by rw [Ny443.out,List.length_take];omega)
                   rw [← Ny443.out] at hr75
                   rw [← hy75] at hcut75
                   have HR446:=Aside0.mk hr75
                   have HC446:=Aside0.mk (show y443.length ≤ co73 from by omega)
                   clear hr75 hC75 hroom75 hi075 hsz75
                   have KY75:=Aside0.mk hy75
                   clear hy75
                   have KL75:=Aside0.mk (show (x10_3 : Int).toNat ≤ x6_2.length from by omega)
                   replace q75:=eq_true q75
                   have q76 : (x10_3 : Int) ≤ ((x6_2.length : Int) : Int):=of_decide_eq_true (by (with_reducible assumption))
                   obtain ⟨i076,hi076,_,hsz76,_⟩ := info_parts info9
                   have hroom76 : x6_2.length ≤ co73:=(Kd.R_reads' HO_6.out).2.1
                   have hC76 : Kd.C Kd.string _ Ao73 x6_2.length x6_2:=(Kd.R_reads' HO_6.out).2.2
                   have q076 : (0 : Int) ≤ (x10_3 : Int):=of_decide_eq_true (by (with_reducible assumption))
                   have hcut76:=cut_from (P:=Try.prog) 35 9 .i64 Try.underlying35 hi076 1 hsz76 Ao73 x6_2.length co73 x10_3 q076 q76
                   have hr76:=Kd.C_drop (m:=(x10_3 : Int).toNat) (c:=co73) hC76 (by omega) hroom76
                   obtain ⟨A76,hA76⟩ : ∃ A1,A1 = (if co73 = (x10_3 : Int).toNat then Ao73 else (Ao73 : Option Addr).map (·.add ((x10_3 : Int).toNat * 1))):=⟨_,rfl⟩
                   obtain ⟨c76,hc76⟩ : ∃ c1,c1 = co73 - (x10_3 : Int).toNat:=⟨_,rfl⟩
                   have hy76 : y456.length = x6_2.length - (x10_3 : Int).toNat:=(by rw [Ny456.out,List.length_drop] <;> omega)
                   rw [show (x6_2).drop (x10_3 : Int).toNat = y456 from Ny456.out.symm] at hr76
                   replace hr76 : Kd.C Kd.string _ A76 y456.length y456:=(by rw [hA76];exact hr76)
                   rw [← hy76,← hA76,← hc76] at hcut76
                   have HR459:=Aside0.mk hr76
                   have HC459:=Aside0.mk (show y456.length ≤ c76 from by rw [hy76,hc76];exact Nat.sub_le_sub_right hroom76 _)
                   clear hr76 hC76 hroom76 hi076 hsz76 hc76
                   have KY76:=Aside0.mk hy76
                   have KA76:=Aside0.mk hA76
                   clear hy76 hA76
                   have KL76:=Aside0.mk (show (x10_3 : Int).toNat ≤ x6_2.length from by omega)
                   replace q76:=eq_true q76
                   refine start_ (n:=13) (S:=fun w' => True) (ds := []) #[false,false,false,false,false,false,false,false,false,false,false,false,false] (by kernel_rfl) rfl rfl trivial (fun hHeld => ?_);refine with_tabW spec_HeldContainers.tab14 spec_HeldContainers.bits14 (fun HT_ HW_ => ?_)
                   generalize wr.drew = w74 at HO_6 HB HR446 HR459 hHeld ⊢
                   refine pure_ (i:=1) (N:=some 66) (v:=?_) (a':=?_) #[false,true,false,false,false,false,false,false,false,false,false,false,false] rfl rfl (any_of HT_.out (by kernel_rfl)) (fun _ _ _ h => h) (Or.inl ⟨by rfl, ?_⟩) ?_ ?_
                   rotate_left
                   ·intro w'
                    go_simp
                    with_reducible rfl
                   rotate_left
                   ·simp only [Act.put,sA_,s0_,s1_,i64_w,i32_w]
                    rfl
                   refine pure_ (i:=2) (N:=some 67) (v:=?_) (a':=?_) #[false,true,true,false,false,false,false,false,false,false,false,false,false] rfl rfl (any_of HT_.out (by kernel_rfl)) (fun _ _ _ h => h) (Or.inl ⟨by rfl, ?_⟩) ?_ ?_
                   rotate_left
                   ·intro w'
                    go_simp
                    with_reducible rfl
                   rotate_left
                   ·simp only [Act.put,sA_,s0_,s1_,i64_w,i32_w]
                    rfl
                   refine pure_ (i:=3) (N:=some 68) (v:=?_) (a':=?_) #[false,true,true,true,false,false,false,false,false,false,false,false,false] rfl rfl (any_of HT_.out (by kernel_rfl)) (fun _ _ _ h => h) (Or.inl ⟨by rfl, ?_⟩) ?_ ?_
                   rotate_left
                   ·intro w'
                    go_simp
                    with_reducible rfl
                   rotate_left
                   ·simp only [Act.put,sA_,s0_,s1_,i64_w,i32_w]
                    rfl
                   refine pure_ (i:=5) (N:=some 70) (v:=?_) (a':=?_) #[false,true,true,true,false,true,false,false,false,false,false,false,false] rfl rfl (any_of HT_.out (by kernel_rfl)) (fun _ _ _ h => h) (Or.inl ⟨by rfl, ?_⟩) ?_ ?_
                   rotate_left
                   ·intro w'
                    go_simp
                    with_reducible rfl
                   rotate_left
                   ·simp only [Act.put,sA_,s0_,s1_,i64_w,i32_w]
                    rfl
                   refine pure_ (i:=8) (N:=some 73) (v:=?_) (a':=?_) #[false,true,true,true,false,true,false,false,true,false,false,false,false] rfl rfl (any_of HT_.out (by kernel_rfl)) (fun _ _ _ h => h) (Or.inl ⟨by rfl, ?_⟩) ?_ ?_
                   rotate_left
                   ·intro w'
                    go_simp
                    with_reducible rfl
                   rotate_left
                   ·simp only [Act.put,sA_,s0_,s1_,i64_w,i32_w]
                    rfl
                   refine pure_ (i:=9) (N:=some 74) (v:=?_) (a':=?_) #[false,true,true,true,false,true,false,false,true,true,false,false,false] rfl rfl (any_of HT_.out (by kernel_rfl)) (fun _ _ _ h => h) (Or.inl ⟨by rfl, ?_⟩) ?_ ?_
                   rotate_left
                   ·intro w'
                    go_simp
                    with_reducible rfl
                   rotate_left
                   ·simp only [Act.put,sA_,s0_,s1_,i64_w,i32_w]
                    rfl
                   refine pure_ (i:=10) (N:=some 75) (v:=?_) (a':=?_) #[false,true,true,true,false,true,false,false,true,true,true,false,false] rfl rfl (any_of HT_.out (by kernel_rfl)) (fun _ _ _ h => h) (Or.inl ⟨by rfl, ?_⟩) ?_ ?_
                   rotate_left
                   ·intro w'
                    go_simp
                    with_reducible rfl
                   rotate_left
                   ·simp only [Act.put,sA_,s0_,s1_,i64_w,i32_w]
                    rfl
                   refine join_ (σ:=Value × Value × Value) 3 #[true,true,true,true,true,true,true,false,true,true,true,false,false] (fun s_ => [(65,s_.1),(69,s_.2.1),(71,s_.2.2)]) (fun s_ w' => (Kd.R Kd.string 9 w' w.heap.size (fun k_ => some k_ ≠ (s_.2.2 : Value).ownBlock ∧ some k_ ≠ (.slice Ao73 x6_2.length co73 : Value).ownBlock) s_.2.1 y447) ∧ (Kd.R Kd.string 9 w' w.heap.size (fun k_ => some k_ ≠ (s_.2.1 : Value).ownBlock ∧ some k_ ≠ (.slice Ao73 x6_2.length co73 : Value).ownBlock) s_.2.2 y450) ∧ (Kd.R Kd.string 9 w' w.heap.size (fun k_ => some k_ ≠ (s_.2.1 : Value).ownBlock ∧ some k_ ≠ (s_.2.2 : Value).ownBlock) (.slice Ao73 x6_2.length co73) x6_2) ∧ (Kd.C Kd.string w' A76 y456.length y456) ∧ (Below w.heap.size w w')) ?_ ?_
                   rotate_left
                   ·intro hCont
                    refine two_ (i:=0) (j:=6) (Ni:=some 65) (Nj:=some 71) #[true,true,true,true,false,true,false,false,true,true,true,false,false] #[false,true,true,true,false,true,true,false,true,true,true,false,false] rfl rfl rfl rfl (two_of HT_.out (by kernel_rfl)) (by decide) (by decide) (fun K hK => ?_) (fun K hK => ?_)
                    ·skip
                     refine Kd.R_lit_step Kd.string _ 9 ?hg (N:=65) ?hd (xs:=([] : List ByteArray)) (inner := []) (ok:=fun _ => True) (okp:=fun _ => True) ?hr ?hp (fun _ hk => hk) trivial (Below.refl _ _) (Nat.le_refl _) (by simp) ?_;(case hd => rfl);(case hg => rfl);(case hr => (go_simp;done));(case hp => exact (Reps.none _ _))
                     intro v441 w77 ho78 hb hg_ hnew_
                     clear hg_ hnew_
                     (rw [← Ny440.out] at ho78)
                     have n0_:=Aside0.mk (Kd.R_elder' (by exact HO_6.out) (Kd.R_base ho78) hb)
                     have n1_:=Aside0.mk (Kd.R_lower (Kd.R_new' ho78 (Kd.R_lt (by exact HO_6.out))) (below_size (by exact HB.out)))
                     have n2_:=Aside0.mk (Kd.C_below (by exact HR446.out) hb)
                     have n3_:=Aside0.mk (Kd.C_below (by exact HR459.out) hb)
                     have n4_:=Aside0.mk (below_step (by exact HB.out) hb)
                     clear HO_6
                     clear HR446
                     clear HR459
                     clear HB
                     have HO_6:=n0_
                     have HO442:=n1_
                     have HR446:=n2_
                     have HR459:=n3_
                     have HB:=n4_
                     clear n0_ n1_ n2_ n3_ n4_
                     clear hb ho78
                     refine hK.out _ _ trivial (fun hHeld => ?_)
                     clear hK K
                     refine norm_ (a':=?_) ?_ ?_
                     rotate_left
                     ·show Act.put _ (some 65) _ = _
                      simp only [Act.put,sA_,s0_,s1_,i64_w,i32_w]
                      rfl
                     refine two_ (i:=4) (j:=6) (Ni:=some 69) (Nj:=some 71) #[true,true,true,true,true,true,false,false,true,true,true,false,false] #[true,true,true,true,false,true,true,false,true,true,true,false,false] rfl rfl rfl rfl (two_of HT_.out (by kernel_rfl)) (by decide) (by decide) (fun K hK => ?_) (fun K hK => ?_)
                     ·skip
                      refine Kd.R_append_rows_step Kd.string (w0:=w) w.heap.size (by rfl) (.tmp 65) (.tmp 68) 35 9 (.string ⟨#[]⟩) 16 rfl Try.underlying35 info9 rfl (by decide) (by omega) v441 y440 y443 _ _ _ (fun k_ => some k_ ≠ (.slice Ao73 x6_2.length co73 : Value).ownBlock) (fun _ => False) rfl rfl ?aO ?aR (fun _ _ h => h) (fun _ h => h.elim) ?aF ?aB ?aS ?aL ?_
                      (case aR => repeat (exact (by repeat (exact HR446.out))))
                      (case aB => exact (by exact HB.out))
                      (case aF => exact (fun k_ hk => Kd.fresh' (Kd.R_lt (by exact HO_6.out)) k_ hk))
                      (case aO => exact (by exact Kd.R_mono HO442.out (fun _ hk => hk.2)))
                      (case aS => exact (below_size (by exact HB.out)))
                      (case aL => have:=LMc68.out;omega)
                      intro v448 w79 ho hb hg hat
                      rw [← Ny447.out] at ho
                      have n0_:=Aside0.mk (Kd.R_after (ok:=(fun _ => True)) (by exact HO_6.out) hg hat)
                      have n1_:=Aside0.mk (hb)
                      have n2_:=Aside0.mk ((show Kd.C Kd.string w79 Ao73 y443.length y443 from by rw [Ny443.out];exact Kd.C_take (m:=(x10_3 : Int).toNat) ((Kd.R_reads' (Kd.R_after (ok:=(fun _ => True)) (by exact HO_6.out) hg hat)).2.2) KL75.out))
                      have n3_:=Aside0.mk ((show Kd.C Kd.string w79 A76 y456.length y456 from by rw [Ny456.out,KA76.out];exact Kd.C_drop (m:=(x10_3 : Int).toNat) (c:=co73) ((Kd.R_reads' (Kd.R_after (ok:=(fun _ => True)) (by exact HO_6.out) hg hat)).2.2) KL76.out ((Kd.R_reads' (Kd.R_after (ok:=(fun _ => True)) (by exact HO_6.out) hg hat)).2.1)))
                      have n4_:=Aside0.mk (ho)
                      clear HO_6
                      clear HB
                      clear HR446
                      clear HR459
                      clear HO442
                      have HO_6:=n0_
                      have HB:=n1_
                      have HR446:=n2_
                      have HR459:=n3_
                      have HO449:=n4_
                      clear n0_ n1_ n2_ n3_ n4_
                      clear ho hb hg hat
                      refine hK.out _ _ trivial (fun hHeld => ?_)
                      clear hK K
                      refine norm_ (a':=?_) ?_ ?_
                      rotate_left
                      ·show Act.put _ (some 69) _ = _
                       simp only [Act.put,sA_,s0_,s1_,i64_w,i32_w]
                       rfl
                      refine one_ (i:=6) (N:=some 71) #[true,true,true,true,true,true,true,false,true,true,true,false,false] rfl rfl (one_of HT_.out (by kernel_rfl)) (by decide) (fun K hK => ?_)
                      refine Kd.R_lit_step Kd.string _ 9 ?hg (N:=71) ?hd (xs:=([((rd_T52 l0 x8_2).f1)] : List ByteArray)) (inner := [.string ((rd_T52 l0 x8_2).f1)]) (ok:=fun _ => True) (okp:=fun _ => True) ?hr ?hp (fun _ hk => hk) trivial (Below.refl _ _) (Nat.le_refl _) (by simp) ?_;(case hd => rfl);(case hg => rfl);(case hr => (go_simp;done));(case hp => exact (Reps.one (show Kd.M Kd.string _ _ _ ((rd_T52 l0 x8_2).f1) [.string ((rd_T52 l0 x8_2).f1)] from rfl) (Reps.none _ _)))
                      intro v451 w80 ho81 hb hg_ hnew_
                      clear hg_ hnew_
                      (rw [← Ny450.out] at ho81)
                      have n0_:=Aside0.mk (Kd.R_elder' (by exact HO_6.out) (Kd.R_base ho81) hb)
                      have n1_:=Aside0.mk (Kd.R_elder' (by exact HO449.out) (Kd.R_base ho81) hb)
                      have n2_:=Aside0.mk (Kd.R_lower (Kd.R_new' (Kd.R_new' ho81 (Kd.R_lt (by exact HO_6.out))) (Kd.R_lt (by exact HO449.out))) (below_size (by exact HB.out)))
                      have n3_:=Aside0.mk (Kd.C_below (by exact HR446.out) hb)
                      have n4_:=Aside0.mk (Kd.C_below (by exact HR459.out) hb)
                      have n5_:=Aside0.mk (below_step (by exact HB.out) hb)
                      clear HO_6
                      clear HO449
                      clear HR446
                      clear HR459
                      clear HB
                      have HO_6:=n0_
                      have HO449:=n1_
                      have HO452:=n2_
                      have HR446:=n3_
                      have HR459:=n4_
                      have HB:=n5_
                      clear n0_ n1_ n2_ n3_ n4_ n5_
                      clear hb ho81
                      refine hK.out _ _ trivial (fun hHeld => ?_)
                      clear hK K
                      refine norm_ (a':=?_) ?_ ?_
                      rotate_left
                      ·show Act.put _ (some 71) _ = _
                       simp only [Act.put,sA_,s0_,s1_,i64_w,i32_w]
                       rfl
                      exact norm_ (by simp only [putAll,Act.put,sA_,s0_,s1_]) (hCont (v441,v448,v451) _ ⟨(by exact Kd.R_mono HO449.out (fun _ hk => ⟨hk.2,hk.1⟩)),(by exact Kd.R_mono HO452.out (fun _ hk => ⟨hk.2,hk.1.2⟩)),(by exact Kd.R_mono HO_6.out (fun _ hk => ⟨hk.1.2,hk.2⟩)),(by exact HR459.out),(by exact HB.out)⟩)
                     ·skip
                      refine Kd.R_lit_step Kd.string _ 9 ?hg (N:=71) ?hd (xs:=([((rd_T52 l0 x8_2).f1)] : List ByteArray)) (inner := [.string ((rd_T52 l0 x8_2).f1)]) (ok:=fun _ => True) (okp:=fun _ => True) ?hr ?hp (fun _ hk => hk) trivial (Below.refl _ _) (Nat.le_refl _) (by simp) ?_;(case hd => rfl);(case hg => rfl);(case hr => (go_simp;done));(case hp => exact (Reps.one (show Kd.M Kd.string _ _ _ ((rd_T52 l0 x8_2).f1) [.string ((rd_T52 l0 x8_2).f1)] from rfl) (Reps.none _ _)))
                      intro v451 w79 ho80 hb hg_ hnew_
                      clear hg_ hnew_
                      (rw [← Ny450.out] at ho80)
                      have n0_:=Aside0.mk (Kd.R_elder' (by exact HO_6.out) (Kd.R_base ho80) hb)
                      have n1_:=Aside0.mk (Kd.R_elder' (by exact HO442.out) (Kd.R_base ho80) hb)
                      have n2_:=Aside0.mk (Kd.R_lower (Kd.R_new' (Kd.R_new' ho80 (Kd.R_lt (by exact HO_6.out))) (Kd.R_lt (by exact HO442.out))) (below_size (by exact HB.out)))
                      have n3_:=Aside0.mk (Kd.C_below (by exact HR446.out) hb)
                      have n4_:=Aside0.mk (Kd.C_below (by exact HR459.out) hb)
                      have n5_:=Aside0.mk (below_step (by exact HB.out) hb)
                      clear HO_6
                      clear HO442
                      clear HR446
                      clear HR459
                      clear HB
                      have HO_6:=n0_
                      have HO442:=n1_
                      have HO452:=n2_
                      have HR446:=n3_
                      have HR459:=n4_
                      have HB:=n5_
                      clear n0_ n1_ n2_ n3_ n4_ n5_
                      clear hb ho80
                      refine hK.out _ _ trivial (fun hHeld => ?_)
                      clear hK K
                      refine norm_ (a':=?_) ?_ ?_
                      rotate_left
                      ·show Act.put _ (some 71) _ = _
                       simp only [Act.put,sA_,s0_,s1_,i64_w,i32_w]
                       rfl
                      refine one_ (i:=4) (N:=some 69) #[true,true,true,true,true,true,true,false,true,true,true,false,false] rfl rfl (one_of HT_.out (by kernel_rfl)) (by decide) (fun K hK => ?_)
                      refine Kd.R_append_rows_step Kd.string (w0:=w) w.heap.size (by rfl) (.tmp 65) (.tmp 68) 35 9 (.string ⟨#[]⟩) 16 rfl Try.underlying35 info9 rfl (by decide) (by omega) v441 y440 y443 _ _ _ (fun k_ => some k_ ≠ (.slice Ao73 x6_2.length co73 : Value).ownBlock ∧ some k_ ≠ (v451 : Value).ownBlock) (fun _ => False) rfl rfl ?aO ?aR (fun _ _ h => h) (fun _ h => h.elim) ?aF ?aB ?aS ?aL ?_
                      (case aR => repeat (exact (by repeat (exact HR446.out))))
                      (case aB => exact (by exact HB.out))
                      (case aF => exact (fun k_ hk => ⟨Kd.fresh' (Kd.R_lt (by exact HO_6.out)) k_ hk,Kd.fresh' (Kd.R_lt (by exact HO452.out)) k_ hk⟩))
                      (case aO => exact (by exact Kd.R_mono HO442.out (fun _ hk => ⟨hk.1.2,hk.2⟩)))
                      (case aS => exact (below_size (by exact HB.out)))
                      (case aL => have:=LMc68.out;omega)
                      intro v448 w81 ho hb hg hat
                      rw [← Ny447.out] at ho
                      have n0_:=Aside0.mk (Kd.R_after (ok:=(fun k_ => some k_ ≠ (v451 : Value).ownBlock)) (by exact Kd.R_mono HO_6.out (fun _ hk => ⟨hk.2,hk.1.2⟩)) hg hat)
                      have n1_:=Aside0.mk (Kd.R_after (ok:=(fun k_ => some k_ ≠ (.slice Ao73 x6_2.length co73 : Value).ownBlock)) (by exact Kd.R_mono HO452.out (fun _ hk => ⟨hk.1.2,hk.2⟩)) hg hat)
                      have n2_:=Aside0.mk (hb)
                      have n3_:=Aside0.mk ((show Kd.C Kd.string w81 Ao73 y443.length y443 from by rw [Ny443.out];exact Kd.C_take (m:=(x10_3 : Int).toNat) ((Kd.R_reads' (Kd.R_after (ok:=(fun k_ => some k_ ≠ (v451 : Value).ownBlock)) (by exact Kd.R_mono HO_6.out (fun _ hk => ⟨hk.2,hk.1.2⟩)) hg hat)).2.2) KL75.out))
                      have n4_:=Aside0.mk ((show Kd.C Kd.string w81 A76 y456.length y456 from by rw [Ny456.out,KA76.out];exact Kd.C_drop (m:=(x10_3 : Int).toNat) (c:=co73) ((Kd.R_reads' (Kd.R_after (ok:=(fun k_ => some k_ ≠ (v451 : Value).ownBlock)) (by exact Kd.R_mono HO_6.out (fun _ hk => ⟨hk.2,hk.1.2⟩)) hg hat)).2.2) KL76.out ((Kd.R_reads' (Kd.R_after (ok:=(fun k_ => some k_ ≠ (v451 : Value).ownBlock)) (by exact Kd.R_mono HO_6.out (fun _ hk => ⟨hk.2,hk.1.2⟩)) hg hat)).2.1)))
                      have n5_:=Aside0.mk (ho)
                      clear HO_6
                      clear HO452
                      clear HB
                      clear HR446
                      clear HR459
                      clear HO442
                      have HO_6:=n0_
                      have HO452:=n1_
                      have HB:=n2_
                      have HR446:=n3_
                      have HR459:=n4_
                      have HO449:=n5_
                      clear n0_ n1_ n2_ n3_ n4_ n5_
                      clear ho hb hg hat
                      refine hK.out _ _ trivial (fun hHeld => ?_)
                      clear hK K
                      refine norm_ (a':=?_) ?_ ?_
                      rotate_left
                      ·show Act.put _ (some 69) _ = _
                       simp only [Act.put,sA_,s0_,s1_,i64_w,i32_w]
                       rfl
                      exact norm_ (by simp only [putAll,Act.put,sA_,s0_,s1_]) (hCont (v441,v448,v451) _ ⟨(by exact Kd.R_mono HO449.out (fun _ hk => ⟨hk.2,hk.1⟩)),(by exact Kd.R_mono HO452.out (fun _ hk => ⟨hk.2,hk.1⟩)),(by exact Kd.R_mono HO_6.out (fun _ hk => ⟨hk.2,hk.1⟩)),(by exact HR459.out),(by exact HB.out)⟩)
                    ·skip
                     refine Kd.R_lit_step Kd.string _ 9 ?hg (N:=71) ?hd (xs:=([((rd_T52 l0 x8_2).f1)] : List ByteArray)) (inner := [.string ((rd_T52 l0 x8_2).f1)]) (ok:=fun _ => True) (okp:=fun _ => True) ?hr ?hp (fun _ hk => hk) trivial (Below.refl _ _) (Nat.le_refl _) (by simp) ?_;(case hd => rfl);(case hg => rfl);(case hr => (go_simp;done));(case hp => exact (Reps.one (show Kd.M Kd.string _ _ _ ((rd_T52 l0 x8_2).f1) [.string ((rd_T52 l0 x8_2).f1)] from rfl) (Reps.none _ _)))
                     intro v451 w77 ho78 hb hg_ hnew_
                     clear hg_ hnew_
                     (rw [← Ny450.out] at ho78)
                     have n0_:=Aside0.mk (Kd.R_elder' (by exact HO_6.out) (Kd.R_base ho78) hb)
                     have n1_:=Aside0.mk (Kd.R_lower (Kd.R_new' ho78 (Kd.R_lt (by exact HO_6.out))) (below_size (by exact HB.out)))
                     have n2_:=Aside0.mk (Kd.C_below (by exact HR446.out) hb)
                     have n3_:=Aside0.mk (Kd.C_below (by exact HR459.out) hb)
                     have n4_:=Aside0.mk (below_step (by exact HB.out) hb)
                     clear HO_6
                     clear HR446
                     clear HR459
                     clear HB
                     have HO_6:=n0_
                     have HO452:=n1_
                     have HR446:=n2_
                     have HR459:=n3_
                     have HB:=n4_
                     clear n0_ n1_ n2_ n3_ n4_
                     clear hb ho78
                     refine hK.out _ _ trivial (fun hHeld => ?_)
                     clear hK K
                     refine norm_ (a':=?_) ?_ ?_
                     rotate_left
                     ·show Act.put _ (some 71) _ = _
                      simp only [Act.put,sA_,s0_,s1_,i64_w,i32_w]
                      rfl
                     refine one_ (i:=0) (N:=some 65) #[true,true,true,true,false,true,true,false,true,true,true,false,false] rfl rfl (one_of HT_.out (by kernel_rfl)) (by decide) (fun K hK => ?_)
                     refine Kd.R_lit_step Kd.string _ 9 ?hg (N:=65) ?hd (xs:=([] : List ByteArray)) (inner := []) (ok:=fun _ => True) (okp:=fun _ => True) ?hr ?hp (fun _ hk => hk) trivial (Below.refl _ _) (Nat.le_refl _) (by simp) ?_;(case hd => rfl);(case hg => rfl);(case hr => (go_simp;done));(case hp => exact (Reps.none _ _))
                     intro v441 w79 ho80 hb hg_ hnew_
                     clear hg_ hnew_
                     (rw [← Ny440.out] at ho80)
                     have n0_:=Aside0.mk (Kd.R_elder' (by exact HO_6.out) (Kd.R_base ho80) hb)
                     have n1_:=Aside0.mk (Kd.R_elder' (by exact HO452.out) (Kd.R_base ho80) hb)
                     have n2_:=Aside0.mk (Kd.R_lower (Kd.R_new' (Kd.R_new' ho80 (Kd.R_lt (by exact HO_6.out))) (Kd.R_lt (by exact HO452.out))) (below_size (by exact HB.out)))
                     have n3_:=Aside0.mk (Kd.C_below (by exact HR446.out) hb)
                     have n4_:=Aside0.mk (Kd.C_below (by exact HR459.out) hb)
                     have n5_:=Aside0.mk (below_step (by exact HB.out) hb)
                     clear HO_6
                     clear HO452
                     clear HR446
                     clear HR459
                     clear HB
                     have HO_6:=n0_
                     have HO452:=n1_
                     have HO442:=n2_
                     have HR446:=n3_
                     have HR459:=n4_
                     have HB:=n5_
                     clear n0_ n1_ n2_ n3_ n4_ n5_
                     clear hb ho80
                     refine hK.out _ _ trivial (fun hHeld => ?_)
                     clear hK K
                     refine norm_ (a':=?_) ?_ ?_
                     rotate_left
                     ·show Act.put _ (some 65) _ = _
                      simp only [Act.put,sA_,s0_,s1_,i64_w,i32_w]
                      rfl
                     refine one_ (i:=4) (N:=some 69) #[true,true,true,true,true,true,true,false,true,true,true,false,false] rfl rfl (one_of HT_.out (by kernel_rfl)) (by decide) (fun K hK => ?_)
                     refine Kd.R_append_rows_step Kd.string (w0:=w) w.heap.size (by rfl) (.tmp 65) (.tmp 68) 35 9 (.string ⟨#[]⟩) 16 rfl Try.underlying35 info9 rfl (by decide) (by omega) v441 y440 y443 _ _ _ (fun k_ => some k_ ≠ (.slice Ao73 x6_2.length co73 : Value).ownBlock ∧ some k_ ≠ (v451 : Value).ownBlock) (fun _ => False) rfl rfl ?aO ?aR (fun _ _ h => h) (fun _ h => h.elim) ?aF ?aB ?aS ?aL ?_
                     (case aR => repeat (exact (by repeat (exact HR446.out))))
                     (case aB => exact (by exact HB.out))
                     (case aF => exact (fun k_ hk => ⟨Kd.fresh' (Kd.R_lt (by exact HO_6.out)) k_ hk,Kd.fresh' (Kd.R_lt (by exact HO452.out)) k_ hk⟩))
                     (case aO => exact (by exact Kd.R_mono HO442.out (fun _ hk => ⟨hk.1.2,hk.2⟩)))
                     (case aS => exact (below_size (by exact HB.out)))
                     (case aL => have:=LMc68.out;omega)
                     intro v448 w81 ho hb hg hat
                     rw [← Ny447.out] at ho
                     have n0_:=Aside0.mk (Kd.R_after (ok:=(fun k_ => some k_ ≠ (v451 : Value).ownBlock)) (by exact Kd.R_mono HO_6.out (fun _ hk => ⟨hk.1.2,hk.2⟩)) hg hat)
                     have n1_:=Aside0.mk (Kd.R_after (ok:=(fun k_ => some k_ ≠ (.slice Ao73 x6_2.length co73 : Value).ownBlock)) (by exact Kd.R_mono HO452.out (fun _ hk => ⟨hk.1.2,hk.2⟩)) hg hat)
                     have n2_:=Aside0.mk (hb)
                     have n3_:=Aside0.mk ((show Kd.C Kd.string w81 Ao73 y443.length y443 from by rw [Ny443.out];exact Kd.C_take (m:=(x10_3 : Int).toNat) ((Kd.R_reads' (Kd.R_after (ok:=(fun k_ => some k_ ≠ (v451 : Value).ownBlock)) (by exact Kd.R_mono HO_6.out (fun _ hk => ⟨hk.1.2,hk.2⟩)) hg hat)).2.2) KL75.out))
                     have n4_:=Aside0.mk ((show Kd.C Kd.string w81 A76 y456.length y456 from by rw [Ny456.out,KA76.out];exact Kd.C_drop (m:=(x10_3 : Int).toNat) (c:=co73) ((Kd.R_reads' (Kd.R_after (ok:=(fun k_ => some k_ ≠ (v451 : Value).ownBlock)) (by exact Kd.R_mono HO_6.out (fun _ hk => ⟨hk.1.2,hk.2⟩)) hg hat)).2.2) KL76.out ((Kd.R_reads' (Kd.R_after (ok:=(fun k_ => some k_ ≠ (v451 : Value).ownBlock)) (by exact Kd.R_mono HO_6.out (fun _ hk => ⟨hk.1.2,hk.2⟩)) hg hat)).2.1)))
                     have n5_:=Aside0.mk (ho)
                     clear HO_6
                     clear HO452
                     clear HB
                     clear HR446
                     clear HR459
                     clear HO442
                     have HO_6:=n0_
                     have HO452:=n1_
                     have HB:=n2_
                     have HR446:=n3_
                     have HR459:=n4_
                     have HO449:=n5_
                     clear n0_ n1_ n2_ n3_ n4_ n5_
                     clear ho hb hg hat
                     refine hK.out _ _ trivial (fun hHeld => ?_)
                     clear hK K
                     refine norm_ (a':=?_) ?_ ?_
                     rotate_left
                     ·show Act.put _ (some 69) _ = _
                      simp only [Act.put,sA_,s0_,s1_,i64_w,i32_w]
                      rfl
                     exact norm_ (by simp only [putAll,Act.put,sA_,s0_,s1_]) (hCont (v441,v448,v451) _ ⟨(by exact Kd.R_mono HO449.out (fun _ hk => ⟨hk.2,hk.1⟩)),(by exact Kd.R_mono HO452.out (fun _ hk => ⟨hk.2,hk.1⟩)),(by exact Kd.R_mono HO_6.out (fun _ hk => ⟨hk.2,hk.1⟩)),(by exact HR459.out),(by exact HB.out)⟩)
                   rintro ⟨v441,v448,v451⟩ w82 ⟨h0_,h1_,h2_,h3_,h4_⟩
                   have n0_ : Aside0 (Kd.R Kd.string 9 w82 w.heap.size (fun k_ => some k_ ≠ (v451 : Value).ownBlock ∧ some k_ ≠ (.slice Ao73 x6_2.length co73 : Value).ownBlock) v448 y447):=⟨h0_⟩
                   have n1_ : Aside0 (Kd.R Kd.string 9 w82 w.heap.size (fun k_ => some k_ ≠ (v448 : Value).ownBlock ∧ some k_ ≠ (.slice Ao73 x6_2.length co73 : Value).ownBlock) v451 y450):=⟨h1_⟩
                   have n2_ : Aside0 (Kd.R Kd.string 9 w82 w.heap.size (fun k_ => some k_ ≠ (v448 : Value).ownBlock ∧ some k_ ≠ (v451 : Value).ownBlock) (.slice Ao73 x6_2.length co73) x6_2):=⟨h2_⟩
                   have n3_ : Aside0 (Kd.C Kd.string w82 A76 y456.length y456):=⟨h3_⟩
                   have n4_ : Aside0 (Below w.heap.size w w82):=⟨h4_⟩
                   clear HO_6
                   clear HB
                   clear h0_ h1_ h2_ h3_ h4_
                   have HO449:=n0_
                   have HO452:=n1_
                   have HO_6:=n2_
                   have HR459:=n3_
                   have HB:=n4_
                   clear n0_ n1_ n2_ n3_ n4_
                   have hHeld:=trivial
                   obtain ⟨Ao84,co84,eo84⟩ := Kd.R_slice HO452.out
                   (subst eo84)
                   refine norm_ (a':=?_) ?_ ?_
                   rotate_left
                   ·simp only [putAll,Act.put,sA_,s0_,s1_]
                    rfl
                   refine one_ (i:=7) (N:=some 72) #[true,true,true,true,true,true,true,true,true,true,true,false,false] rfl rfl (one_of HT_.out (by kernel_rfl)) (by decide) (fun K hK => ?_)
                   refine Kd.R_append_rows_step Kd.string (w0:=w) w.heap.size (by rfl) (.tmp 69) (.tmp 71) 35 9 (.string ⟨#[]⟩) 16 rfl Try.underlying35 info9 rfl (by decide) (by omega) v448 y447 y450 _ _ _ (fun k_ => some k_ ≠ (.slice Ao73 x6_2.length co73 : Value).ownBlock ∧ some k_ ≠ (.slice Ao84 y450.length co84 : Value).ownBlock) (fun _ => False) rfl rfl ?aO ?aR (fun _ _ h => h) (fun _ h => h.elim) ?aF ?aB ?aS ?aL ?_
                   (case aR => repeat (exact (Kd.R_reads' HO452.out).2.2))
                   (case aB => exact (by exact HB.out))
                   (case aF => exact (fun k_ hk => ⟨Kd.fresh' (Kd.R_lt (by exact HO_6.out)) k_ hk,Kd.fresh' (Kd.R_lt (by exact HO452.out)) k_ hk⟩))
                   (case aO => exact (by exact Kd.R_mono HO449.out (fun _ hk => ⟨hk.2,hk.1⟩)))
                   (case aS => exact (below_size (by exact HB.out)))
                   (case aL => have:=LMc69.out;omega)
                   intro v454 w83 ho hb hg hat
                   rw [← Ny453.out] at ho
                   have n0_:=Aside0.mk (Kd.R_after (ok:=(fun k_ => some k_ ≠ (.slice Ao84 y450.length co84 : Value).ownBlock)) (by exact Kd.R_mono HO_6.out (fun _ hk => ⟨hk.2,hk.1⟩)) hg hat)
                   have n1_:=Aside0.mk (Kd.R_after (ok:=(fun k_ => some k_ ≠ (.slice Ao73 x6_2.length co73 : Value).ownBlock)) (by exact Kd.R_mono HO452.out (fun _ hk => ⟨hk.2,hk.1⟩)) hg hat)
                   have n2_:=Aside0.mk (hb)
                   have n3_:=Aside0.mk ((show Kd.C Kd.string w83 A76 y456.length y456 from by rw [Ny456.out,KA76.out];exact Kd.C_drop (m:=(x10_3 : Int).toNat) (c:=co73) ((Kd.R_reads' (Kd.R_after (ok:=(fun k_ => some k_ ≠ (.slice Ao84 y450.length co84 : Value).ownBlock)) (by exact Kd.R_mono HO_6.out (fun _ hk => ⟨hk.2,hk.1⟩)) hg hat)).2.2) KL76.out ((Kd.R_reads' (Kd.R_after (ok:=(fun k_ => some k_ ≠ (.slice Ao84 y450.length co84 : Value).ownBlock)) (by exact Kd.R_mono HO_6.out (fun _ hk => ⟨hk.2,hk.1⟩)) hg hat)).2.1)))
                   have n4_:=Aside0.mk (ho)
                   clear HO_6
                   clear HO452
                   clear HB
                   clear HR459
                   clear HO449
                   have HO_6:=n0_
                   have HO452:=n1_
                   have HB:=n2_
                   have HR459:=n3_
                   have HO455:=n4_
                   clear n0_ n1_ n2_ n3_ n4_
                   clear ho hb hg hat
                   refine hK.out _ _ trivial (fun hHeld => ?_)
                   clear hK K
                   refine norm_ (a':=?_) ?_ ?_
                   rotate_left
                   ·show Act.put _ (some 72) _ = _
                    simp only [Act.put,sA_,s0_,s1_,i64_w,i32_w]
                    rfl
                   refine one_ (i:=11) (N:=some 76) #[true,true,true,true,true,true,true,true,true,true,true,true,false] rfl rfl (one_of HT_.out (by kernel_rfl)) (by decide) (fun K hK => ?_)
                   refine Kd.R_append_rows_step Kd.string (w0:=w) w.heap.size (by rfl) (.tmp 72) (.tmp 75) 35 9 (.string ⟨#[]⟩) 16 rfl Try.underlying35 info9 rfl (by decide) (by omega) v454 y453 y456 _ _ _ (fun k_ => some k_ ≠ (.slice Ao73 x6_2.length co73 : Value).ownBlock ∧ some k_ ≠ (.slice Ao84 y450.length co84 : Value).ownBlock) (fun _ => False) rfl rfl ?aO ?aR (fun _ _ h => h) (fun _ h => h.elim) ?aF ?aB ?aS ?aL ?_
                   (case aR => repeat (exact (by repeat (exact HR459.out))))
                   (case aB => exact (by exact HB.out))
                   (case aF => exact (fun k_ hk => ⟨Kd.fresh' (Kd.R_lt (by exact HO_6.out)) k_ hk,Kd.fresh' (Kd.R_lt (by exact HO452.out)) k_ hk⟩))
                   (case aO => exact (by exact HO455.out))
                   (case aS => exact (below_size (by exact HB.out)))
                   (case aL => have:=LMc72.out;omega)
                   intro v461 w85 ho hb hg hat
                   rw [← Ny460.out] at ho
                   have n0_:=Aside0.mk (Kd.R_after (ok:=(fun k_ => some k_ ≠ (.slice Ao84 y450.length co84 : Value).ownBlock)) (by exact HO_6.out) hg hat)
                   have n1_:=Aside0.mk (Kd.R_after (ok:=(fun k_ => some k_ ≠ (.slice Ao73 x6_2.length co73 : Value).ownBlock)) (by exact HO452.out) hg hat)
                   have n2_:=Aside0.mk (hb)
                   have n3_:=Aside0.mk ((show Kd.C Kd.string w85 A76 y456.length y456 from by rw [Ny456.out,KA76.out];exact Kd.C_drop (m:=(x10_3 : Int).toNat) (c:=co73) ((Kd.R_reads' (Kd.R_after (ok:=(fun k_ => some k_ ≠ (.slice Ao84 y450.length co84 : Value).ownBlock)) (by exact HO_6.out) hg hat)).2.2) KL76.out ((Kd.R_reads' (Kd.R_after (ok:=(fun k_ => some k_ ≠ (.slice Ao84 y450.length co84 : Value).ownBlock)) (by exact HO_6.out) hg hat)).2.1)))
                   have n4_:=Aside0.mk (ho)
                   clear HO_6
                   clear HO452
                   clear HB
                   clear HR459
                   clear HO455
                   have HO_6:=n0_
                   have HO452:=n1_
                   have HB:=n2_
                   have HR459:=n3_
                   have HO462:=n4_
                   clear n0_ n1_ n2_ n3_ n4_
                   clear ho hb hg hat
                   refine hK.out _ _ trivial (fun hHeld => ?_)
                   clear hK K
                   refine norm_ (a':=?_) ?_ ?_
                   rotate_left
                   ·show Act.put _ (some 76) _ = _
                    simp only [Act.put,sA_,s0_,s1_,i64_w,i32_w]
                    rfl
                   refine pure_ (i:=12) (N:=some 6) (v:=?_) (a':=?_) #[true,true,true,true,true,true,true,true,true,true,true,true,true] rfl rfl (any_of HT_.out (by kernel_rfl)) (fun _ _ _ h => h) (Or.inl ⟨by rfl, ?_⟩) ?_ ?_
                   rotate_left
                   ·intro w'
                    go_simp
                    with_reducible rfl
                   rotate_left
                   ·simp only [Act.put,sA_,s0_,s1_,i64_w,i32_w]
                    rfl
                   refine done_ (done_of HT_.out (by kernel_rfl)) ?_
                   try go_wp2
                   go_roundg k3
                   case measure => have:=HJ2.out;have:=HK2.out;have:=HK3.out;omega
                   case rel => exact ⟨(y460),(wrap64 (x8_2 + 1)),(by rfl),H',⟨by have:=HJ2.out;have:=HK2.out;have:=HK3.out;omega⟩,⟨by exact Kd.R_mono HO462.out (fun _ hk => trivial)⟩,⟨by exact HB.out⟩⟩
                  ·rw [if_neg c72] at H
                   exact absurd H (by simp)
                 ·rw [if_neg c69] at H
                  exact absurd H (by simp)
                ·rw [if_neg c68] at H
                 exact absurd H (by simp)
               ·rw [if_neg c67] at H
                exact absurd H (by simp)
              ·rw [if_neg c66] at H
               exact absurd H (by simp)
             ·rw [if_neg c65] at H
              have c65b0 : (x10_3 == (x6_2.length : Int)) = false:=beq_eq_false_iff_ne.mpr c65
              have c65b1 : (x10_3 != (x6_2.length : Int)) = true:=bne_iff_ne.mpr c65
              by_cases c86 : 0 ≤ x10_3
              ·rw [if_pos c86] at H
               exact absurd H (by simp)
              ·rw [if_neg c86] at H
               exact absurd H (by simp)
        ·rw [if_neg c15] at H
         exact absurd H (by simp)
       ·rw [if_neg c14] at H
        exact absurd H (by simp)
      ·rw [if_neg c13] at H
       have c13b0 : decide (x8_2 < t389) = false:=decide_eq_false c13
       clear c13
       simp only [Option.some.injEq,Prod.mk.injEq] at H
       obtain ⟨rfl,rfl⟩ := H
       go_wp2
       go_ret2
       exact ⟨_,by rfl,by exact HO_6.out,by exact HB.out⟩

end Go.Proofs.Yteebkbikpamkmaa.PFnHolds
